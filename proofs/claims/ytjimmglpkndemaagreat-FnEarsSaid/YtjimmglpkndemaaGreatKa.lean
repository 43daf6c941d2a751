/- The walk by reflection: a part of its laws, for any function. Conditions: none. -/
import Derived.Calls
import Derived.Orders
import Derived.Below
import Derived.KernelRfl
import Derived.Laws.OwnMore
import Derived.Laws.Cells
import Derived.Laws.IdiomCopy
import Derived.Laws.Small
import Derived.Laws.Entries
import Derived.Laws.StructEq
import Derived.Laws.BytesString
namespace Go.Proofs.YtjimmglpkndemaaGreatC
theorem bF.{u}{α:Type u}(a b:α):(some a=some b)=(a=b):=Option.some.injEq a b
theorem bI(a b:Bool):((a&&b)=true)=(a=true∧b=true):=Bool.and_eq_true a b
theorem cN.{u,v}{α:Type u}{β:Type v}{x:Option α}{f:α->Option β}{b:β}:x.bind f=some b↔∃a,x=some a∧f a=some b:=Option.bind_eq_some_iff
theorem dU{n m:Nat}(h:Nat.beq n m=true):n=m:=Nat.eq_of_beq_eq_true h
theorem aE{a b:Prop}(x:a)(y:b):a∧b:=⟨x,y⟩
theorem cI:(false=true)=False:=Bool.false_eq_true
set_option linter.unusedVariables false
inductive T where
 |c (v:Value)
 |l (xs:List (List T))
 deriving Inhabited
inductive Lf where
 |k (v:Value)
 |a (n:Nat)
 |e
inductive bD where
 |t (d n:Nat)
 |x (n:Nat)
 |o (n:Nat)
abbrev oJ:=List (Lf×Nat×Nat)
inductive Ce where
 |p (x:Lf)
 |o (id:Nat) (q:oJ)
 |n
 |d
inductive Pv where
 |z
 |w (tk:Nat) (x lo:Lf)
inductive SV where
 |un
 |v (ag:Bool) (cs:List Ce)
 |pt (bx off:Nat)
 |ep (id:Nat) (q:oJ) (ix:Lf) (wd off:Nat)
 |fp (s ix:Lf) (wd off:Nat)
 |tp (vs:List (Bool×List Ce))
 |cl (f:Nat) (bs:List Nat)
 |ob (dp:Bool) (x:Lf)
 |fz (pv:Pv) (x:Lf)
 |tk (x m:Lf)
 |fl (x:Lf)
 |fr (x:Lf)
def bD.beq:bD->bD->Bool
 | .t d n,.t e m=>Nat.beq n m&&Nat.beq d e
 | .x n,.x m=>Nat.beq n m
 | .o n,.o m=>Nat.beq n m
 |_,_=>false
theorem bD.beq_iff{r s:bD}:r.beq s=true↔r=s:=by
 cases r<;>cases s<;>simp[bD.beq,and_comm]
instance:DecidableEq bD:=λr s=>if h:r.beq s=true then isTrue (bD.beq_iff.1 h)else isFalse λe=>h (bD.beq_iff.2 e)
abbrev St:=List (bD×SV)
def St.get(s:St)(r:bD):SV:=
 match s with
 | []=>.un
 |(r',v)::s=>bif r'.beq r then v else St.get s r
def St.set(s:St)(r:bD)(v:SV):St:=
 match s with
 | []=>[(r,v)]
 |(r',v')::s=>bif r'.beq r then(r,v)::s else(r',v')::St.set s r v
theorem St.cq(s:St)(r:bD)(v:SV):(s.set r v).get r=v:=by
 induction s with
 |nil=>simp[St.set,St.get,(bD.beq_iff).2 rfl]
 |cons x s ih=>
  obtain⟨r',v'⟩:=x
  cases h:r'.beq r with
  |true=>simp[St.set,St.get,h,(bD.beq_iff).2 rfl]
  |false=>simp[St.set,St.get,h,ih]
theorem St.ei(s:St){r r':bD}(v:SV)(h:r≠r'):(s.set r v).get r'=s.get r':=by
 have hb:r.beq r'=false:=by
  cases hh:r.beq r' with
  |false=>rfl
  |true=>exact absurd (bD.beq_iff.1 hh) h
 induction s with
 |nil=>simp[St.set,St.get,hb]
 |cons x s ih=>
  obtain⟨r2,v2⟩:=x
  cases h2:r2.beq r with
  |true=>
   have:=bD.beq_iff.1 h2
   subst this
   simp[St.set,St.get,h2,hb]
  |false=>
   cases h3:r2.beq r' with
   |true=>simp[St.set,St.get,h2,h3]
   |false=>simp[St.set,St.get,h2,h3,ih]
inductive Prim where
 |bin (op:BinOp)
 |bb (op:BinOp)
 |un (op:UnOp)
 |len
 |lens
 |kg
 |cell (w j:Nat)
 |aU (w j:Nat)
 |idx
 |sub (w:Nat) (lo hi:Bool)
 |Cc (lo hi:Bool)
 |lit (w:Nat) (ms:List Bool)
 |app (sc:Bool) (w:Nat)
 |mk
 |put (sc:Bool) (w off n:Nat)
 |fv (ms:List Bool) (w off:Nat)
 |kh (w j:Nat)
 |zB (w j:Nat)
 |eqs (ks:List Nat)
 |mx
 |mn
 |IH (k:IntKind)
 |uQ
 |str
 |byt
 |yI
 |gy
inductive E5 where
 |pr (p:Prim) (xs:List Lf)
 |cl (g:Nat) (xs:List Lf) (m:Nat)
inductive PL where
 |ret (xs:List Lf)
 |ins (i:E5) (k:PL)
 |ite (c:Nat) (x y:PL)
 |loop (xs:List Lf) (body:PL)
 |join (k:PL) (body:PL)
 |go (j:Nat) (xs:List Lf)
 |tK (tag:Nat) (s:List St)
def T.bH:T:=.l []
def Lf.ev(ρ:List T):Lf->T
 | .k v=>.c v
 | .a n=>ρ.getD n T.bH
 | .e=>.l []
def wJ:Nat:=4294967296
def jP(op:BinOp):Value->Value->Option Value
 | .int k a,.int k' b=>
  match op with
  | .shl=>if b<0 then none else some (.int k (k.wrap (a*2^(min b.toNat k.bits))))
  | .shr=>if b<0 then none else some (.int k (a.fdiv (2^(min b.toNat k.bits))))
  |op=>
  if k=k' then
   match op with
   | .and=>some (.int k (k.wrap ((BitVec.ofInt k.bits a&&&BitVec.ofInt k.bits b).toNat:Nat)))
   | .or=>some (.int k (k.wrap ((BitVec.ofInt k.bits a|||BitVec.ofInt k.bits b).toNat:Nat)))
   | .xor=>some (.int k (k.wrap ((BitVec.ofInt k.bits a^^^BitVec.ofInt k.bits b).toNat:Nat)))
   | .andNot=>some (.int k (k.wrap ((BitVec.ofInt k.bits a&&& ~~~BitVec.ofInt k.bits b).toNat:Nat)))
   | .add=>some (.int k (k.wrap (a+b)))
   | .sub=>some (.int k (k.wrap (a-b)))
   | .mul=>some (.int k (k.wrap (a*b)))
   | .quo=>if b=0 then none else some (.int k (k.wrap (a.tdiv b)))
   | .rem=>if b=0 then none else some (.int k (a.tmod b))
   | .eql=>some (.bool (a==b))
   | .neq=>some (.bool (a !=b))
   | .lss=>some (.bool (decide (a<b)))
   | .leq=>some (.bool (decide (a<=b)))
   | .gtr=>some (.bool (decide (a>b)))
   | .geq=>some (.bool (decide (a>=b)))
   |_=>none
  else none
 | .string a,.string b=>
  match op with
  | .add=>if a.size+b.size<wJ then some (.string (a++b))else none
  | .eql=>some (.bool (a.toList==b.toList))
  | .neq=>some (.bool !(a.toList==b.toList))
  |_=>none
 |_,_=>none
def JE(op:BinOp):Value->Value->Option Value
 | .bool a,.bool b=>
  match op with
  | .eql=>some (.bool (a==b))
  | .neq=>some (.bool !(a==b))
  |_=>none
 |_,_=>none
def ZR(op:UnOp):Value->Option Value
 | .bool a=>match op with| .not=>some (.bool !a)|_=>none
 | .int k a=>match op with| .neg=>some (.int k (k.wrap (0-a)))|_=>none
 |_=>none
def T.val:T->Option Value
 | .c v=>some v
 | .l _=>none
def T.int:T->Option Int
 | .c (.int _ n)=>some n
 |_=>none
def T.rows:T->Option (List (List T))
 | .l xs=>some xs
 |_=>none
def wK(s i:T):Option (List T):=
 s.rows.bind λxs=>i.int.bind λn=>if 0<=n then xs[n.toNat]? else none
def pF(w:Nat):Nat->List T->List (List T)
 |0,_=>[]
 |n+1,ts=>ts.take w::pF w n (ts.drop w)
def dX:T->Bool
 | .c (.int ..)| .c (.bool _)| .c (.string _)=>true
 |_=>false
def PW:Nat->Value->Value->Option Bool
 |1,.int k a,.int k' b=>if k=k' then some (a==b)else none
 |4,.bool a,.bool b=>some (a==b)
 |2,.string a,.string b=>some (a==b)
 |_,_,_=>none
def yJ:List Nat->List T->List T->Option Bool
 | [],[],[]=>some true
 |k::ks,.c x::xs,.c y::ys=>(PW k x y).bind λb=>(yJ ks xs ys).bind λc=>some (b&&c)
 |_,_,_=>none
def setRow(xs:List (List T))(i off:Nat)(vs:List T):List (List T):=
 xs.modify i λr=>r.take off++vs++r.drop (off+vs.length)
def sM:List Bool->List T->Bool
 |true::ms,t::ts=>dX t&&sM ms ts
 |false::ms,_::ts=>sM ms ts
 |true::_,[]=>false
 |_,_=>true
def okW(w:Nat):List (List T)->Bool
 | []=>true
 |r::_=>Nat.beq r.length w
def tL(us:List (List T))(n k:Nat):Bool:=((us.drop n).take k).all λr=>!r.isEmpty
def Bl(us:List (List T))(n k:Nat):List (List T):=us.take n++List.replicate k []++us.drop (n+k)
def RM:List T->Option Int
 | [.c (.int .u8 n)]=>some n
 |_=>none
def zC:List (List T)->Option (List Int)
 | []=>some []
 |r::rs=>(RM r).bind λn=>(zC rs).bind λns=>some (n::ns)
def Cd(ns:List Int):ByteArray:=⟨(ns.map λn=>UInt8.ofNat n.toNat).toArray⟩
def Prim.ev:Prim->List T->Option T
 | .bin op,[x,y]=>x.val.bind λa=>y.val.bind λb=>(jP op a b).bind λr=>some (.c r)
 | .bb op,[x,y]=>x.val.bind λa=>y.val.bind λb=>(JE op a b).bind λr=>some (.c r)
 | .un op,[x]=>x.val.bind λa=>(ZR op a).bind λr=>some (.c r)
 | .len,[.l xs]=>some (.c (.int .i64 xs.length))
 | .lens,[.c (.string s)]=>some (.c (.int .i64 s.size))
 | .kg,[s,i]=>(wK s i).bind λ_=>some (.c (.bool true))
 | .cell w j,[s,i]=>(wK s i).bind λr=>if r.length=w then r[j]? else none
 | .aU w j,[s,i]=>(wK s i).bind λr=>if r.length=w then(r[j]?).bind λt=>if dX t=true then some t else none else none
 | .idx,[.c (.string s),.c (.int _ n)]=>if 0<=n then(if h:n.toNat<s.size then some (.c (.int .u8 (s.get n.toNat h).toNat))else none)else none
 | .sub w lo hi,.l xs::ts=>if okW w xs=true then
  (match lo,hi,ts with
   |false,false,[]=>some (0,(xs.length:Int))
   |true,false,[.c (.int _ l)]=>some (l,(xs.length:Int))
   |false,true,[.c (.int _ h)]=>some (0,h)
   |true,true,[.c (.int _ l),.c (.int _ h)]=>some (l,h)
   |_,_,_=>none).bind λ(l,h)=>
   if 0<=l then(if l<=h then(if h<=xs.length then some (.l ((xs.take h.toNat).drop l.toNat))else none)else none)else none
  else none
 | .Cc lo hi,.c (.string s)::ts=>
  (match lo,hi,ts with
   |false,false,[]=>some (0,(s.size:Int))
   |true,false,[.c (.int _ l)]=>some (l,(s.size:Int))
   |false,true,[.c (.int _ h)]=>some (0,h)
   |true,true,[.c (.int _ l),.c (.int _ h)]=>some (l,h)
   |_,_,_=>none).bind λ(l,h)=>
   if 0<=l then(if l<=h then(if h<=s.size then some (.c (.string (s.extract l.toNat h.toNat)))else none)else none)else none
 | .lit w ms,ts=>if 0<w then(if sM ms ts=true then some (.l (pF w (ts.length/w) ts))else none)else none
 | .app sc w,[.l xs,.l ys]=>if xs.length+ys.length<wJ then(if(!sc||ys.all (·.all dX))=true then(if okW w xs=true then(if okW w ys=true then some (.l (xs++ys))else none)else none)else none)else none
 | .mk,.c (.int _ n):: .c (.int _ c)::ts=>if 0<=n then(if n=c then(if c<wJ then some (.l (List.replicate n.toNat ts))else none)else none)else none
 | .put sc w off n,s::i::vs=>(wK s i).bind λr=>if r.length=w then(if off+n<=w then(if vs.length=n then(if(!sc||vs.all dX)=true then
   s.rows.bind λxs=>i.int.bind λk=>some (.l (setRow xs k.toNat off vs))else none)else none)else none)else none
 | .fv ms w off,s::i::vs=>(wK s i).bind λr=>if r.length=w then(if off+vs.length<=w then(if sM ms vs=true then
   s.rows.bind λxs=>i.int.bind λk=>some (.l (setRow xs k.toNat off vs))else none)else none)else none
 | .kh w j,[s,i]=>(wK s i).bind λr=>if r.length=w then(r[j]?).bind λt=>t.rows.bind λxs=>some (.l xs)else none
 | .zB w j,[s,i,v]=>(wK s i).bind λr=>if r.length=w then(if j<w then
   s.rows.bind λxs=>i.int.bind λk=>some (.l (setRow xs k.toNat j [v]))else none)else none
 | .eqs ks,ts=>(yJ ks (ts.take ks.length) (ts.drop ks.length)).bind λb=>some (.c (.bool b))
 | .mx,[.c (.int k a),.c (.int _ b)]=>some (.c (.int k (if b>a then b else a)))
 | .mn,[.c (.int k a),.c (.int _ b)]=>some (.c (.int k (if b<a then b else a)))
 | .uQ,[t]=>if dX t=true then some t else none
 | .yI,[.l us,.c (.int _ n)]=>if 0<=n then(if n.toNat+1<=us.length then(if tL us n.toNat 1=true then some (.l (Bl us n.toNat 1))else none)else none)else none
 | .gy,[.l us,.c (.int _ n),.l ys]=>if 0<=n then(if n.toNat+ys.length<=us.length then(if tL us n.toNat ys.length=true then some (.l (Bl us n.toNat ys.length))else none)else none)else none
 | .IH k,[.c (.int _ n)]=>some (.c (.int k (k.wrap n)))
 | .str,[.l xs]=>(zC xs).bind λns=>some (.c (.string (Cd ns)))
 |_,_=>none
def tM(ts:List T):Nat->Nat->List T
 |_,0=>[]
 |i,m+1=>ts.getD i T.bH::tM ts (i+1) m
abbrev aB:=List T->Option (List T)
def E5.ev(S:Nat->aB)(ρ:List T):E5->Option (List T)
 | .pr p xs=>(p.ev (xs.map (Lf.ev ρ))).bind λt=>some [t]
 | .cl g xs m=>(S g (xs.map (Lf.ev ρ))).bind λts=>some (tM ts 0 m)
def iter{α β:Type}(F:(α->Option β)->α->Option β):Nat->α->Option β
 |0,_=>none
 |n+1,x=>F (iter F n) x
def rounds:Nat:=1099511627776
def PL.den(S:Nat->aB)(R:Nat)(K:List aB)(ρ:List T):PL->Option (List T)
 | .ret xs=>some (xs.map (Lf.ev ρ))
 | .ins (.pr p xs) k=>(p.ev (xs.map (Lf.ev ρ))).bind λt=>k.den S R K (ρ++[t])
 | .ins (.cl g xs m) k=>(S g (xs.map (Lf.ev ρ))).bind λts=>k.den S R K (ρ++tM ts 0 m)
 | .ite c x y=>match ρ.getD c T.bH with
  | .c (.bool b)=>bif b then x.den S R K ρ else y.den S R K ρ
  |_=>none
 | .loop xs body=>iter (λself ts=>body.den S R (self::K) (ρ++ts)) R (xs.map (Lf.ev ρ))
 | .join k body=>body.den S R ((λts=>k.den S R K (ρ++ts))::K) ρ
 | .go j xs=>match K[j]? with
  |some f=>f (xs.map (Lf.ev ρ))
  |none=>none
 | .tK _ _=>none
structure TI where
 sz:Nat
 bytes:Nat
 ag:Bool
 zero:List Ce
 el:Nat
 fs:List (Nat×Nat)
 kd:Nat
inductive Ck where
 |s
 |p
 |o (dp:Bool)
inductive PS where
 |v (ag:Bool) (n:Nat)
 |x (n:Nat)
structure pG where
 ps:List PS
 rs:List (Bool×List Ck)
structure Ct where
 a:Nat
 i:Nat
abbrev kj:=List (Nat×Bool)
def fact(fs:kj)(n:Nat):Option Bool:=
 match fs with
 | []=>none
 |(m,b)::fs=>bif Nat.beq m n then some b else fact fs n
inductive Cj where
 |k
 |p
 |o (dp:Bool)
 |d
inductive Rj where
 |drop
 |aI (ag:Bool) (cs:List Cj)
 |rows (js:List (Nat×Bool))
abbrev Js:=List (Nat×Bool×Rj)
structure Cx where
 ty:Nat->Option TI
 sg:Nat->Option pG
 fn:Nat->Option Func
 tN:Nat->Nat->Nat->Option Js
 fz:Nat->Nat->Nat->Bool
 nest:Nat->Bool
def lr:Value->Bool
 | .int .. | .bool _| .string _=>true
 |_=>false
def Cf:Value->SV
 | .slice none 0 0=>.v false [.n]
 |v=>bif lr v then .v false [.p (.k v)]else .un
def cz(d:Nat)(s:bD->SV):Operand->SV
 | .tmp t=>s (.t d t)
 | .const v=>Cf v
 | .func f=>.cl f []
 | .global _=>.un
def cellsOf:SV->Option (List Ce)
 | .v _ cs=>some cs
 |_=>none
def Lf.beq:Lf->Lf->Bool
 | .a n,.a m=>Nat.beq n m
 | .e,.e=>true
 | .k (.int k1 n),.k (.int k2 m)=>decide (k1=k2)&&decide (n=m)
 | .k (.bool b1),.k (.bool b2)=>b1==b2
 | .k (.string s1),.k (.string s2)=>s1.data.toList==s2.data.toList
 |_,_=>false
structure Wk where
 r:St
 w:St
 ct:Ct
 is:List E5
def St.look(s:St)(r:bD):Option SV:=
 match s with
 | []=>none
 |(r',v)::s=>bif r'.beq r then some v else St.look s r
def Wk.get(k:Wk)(r:bD):SV:=
 match k.w.look r with
 |some v=>v
 |none=>k.r.get r
def Wk.em(k:Wk)(p:Prim)(xs:List Lf):Wk×Lf:=({k with ct:=⟨k.ct.a+1,k.ct.i⟩,is:=.pr p xs::k.is},.a k.ct.a)
def Wk.set(k:Wk)(r:bD)(v:SV):Wk:={k with w:=k.w.set r v}
def Wk.down(k:Wk)(x:Lf):oJ->Wk×Lf
 | []=>(k,x)
 |(ix,w,j)::q=>
  let(k,y):=k.em (.kh w j) [x,ix]
  Wk.down k y q
def Wk.up(k:Wk)(x y:Lf):oJ->Wk×Lf
 | []=>(k,y)
 |(ix,w,j)::q=>
  let(k,z):=k.em (.kh w j) [x,ix]
  let(k,z):=Wk.up k z y q
  k.em (.zB w j) [x,ix,z]
def Wk.val(k:Wk):Ce->Option (Wk×Lf)
 | .p x=>some (k,x)
 | .n=>some (k,.e)
 | .o id q=>
  match k.get (.o id)with
  | .ob true x=>some (k.down x q)
  | .ob false x| .fz _ x| .fl x=>match q with
   | []=>some (k,x)
   |_=>none
  |_=>none
 | .d=>none
def Wk.jJ(k:Wk):List Ce->Option (Wk×List Lf)
 | []=>some (k,[])
 |c::cs=>(k.val c).bind λ(k,x)=>(Wk.jJ k cs).bind λ(k,xs)=>some (k,x::xs)
def Wk.one(k:Wk):SV->Option (Wk×Lf)
 | .v false [c]=>k.val c
 |_=>none
def Wk.nl(k:Wk)(id:Nat):Option Wk:=
 match k.get (.o id)with
 | .ob _ x=>some (k.set (.o id) (.fz .z x))
 | .fz _ _=>some k
 |_=>none
def Wk.flat(k:Wk)(id:Nat):Option Wk:=
 match k.get (.o id)with
 | .ob _ x=>some (k.set (.o id) (.ob false x))
 | .fz _ _=>some k
 |_=>none
def Wk.eu(k:Wk):List Ce->Option Wk
 | []=>some k
 | .o id _::cs=>(k.nl id).bind λk=>Wk.eu k cs
 |_::cs=>Wk.eu k cs
def fJ:Ce->Bool
 | .n=>true
 |_=>false
def Wk.fK(k:Wk)(fz:Bool):List Ce->List Ce->Option (Wk×List Lf×Bool)
 | [],[]=>some (k,[],true)
 |z::zs,.p x::cs=>(Wk.fK k fz zs cs).bind λ(k,xs,dp)=>some (k,x::xs,dp&& !fJ z)
 |z::zs,.n::cs=>(Wk.fK k fz zs cs).bind λ(k,xs,dp)=>some (k,.e::xs,dp)
 |z::zs,.o id []::cs=>
  match k.get (.o id)with
  | .fz _ x=>(Wk.fK k fz zs cs).bind λ(k,xs,dp)=>some (k,x::xs,false)
  | .ob d x=>
   bif fz then(Wk.fK (k.set (.o id) (.fz .z x)) fz zs cs).bind λ(k,xs,dp)=>some (k,x::xs,false)
   else bif d then(Wk.fK (k.set (.o id) .un) fz zs cs).bind λ(k,xs,dp)=>some (k,x::xs,dp)
   else(Wk.fK (k.set (.o id) (.fz .z x)) fz zs cs).bind λ(k,xs,dp)=>some (k,x::xs,false)
  |_=>none
 |_,_=>none
def Wk.d_(k:Wk):List Ce->List Ce->Option (Wk×List Lf)
 | [],[]=>some (k,[])
 |z::zs,.p x::cs=>bif fJ z then none else(Wk.d_ k zs cs).bind λ(k,xs)=>some (k,x::xs)
 |z::zs,.n::cs=>(Wk.d_ k zs cs).bind λ(k,xs)=>some (k,.e::xs)
 |z::zs,.o id []::cs=>
  match k.get (.o id)with
  | .ob true x| .fl x=>(Wk.d_ (k.set (.o id) .un) zs cs).bind λ(k,xs)=>some (k,x::xs)
  |_=>none
 |_,_=>none
def Wk.tO(k:Wk)(fz:Bool)(zs cs:List Ce):Option (Wk×List Lf×Bool):=
 match(bif fz then none else k.d_ zs cs)with
 |some (k,xs)=>some (k,xs,true)
 |none=>k.fK true zs cs
def gB(cs:List Ce)(off:Nat)(vs:List Ce):List Ce:=cs.take off++vs++cs.drop (off+vs.length)
def Wk.row(k:Wk)(sc:Bool)(s ix:Lf)(w off:Nat):Nat->Wk×List Ce
 |0=>(k,[])
 |n+1=>
  let(k,y):=k.em (bif sc then .aU w off else .cell w off) [s,ix]
  let(k,cs):=Wk.row k sc s ix w (off+1) n
  (k,.p y::cs)
def Wk.qP(k:Wk)(y ix:Lf)(id:Nat)(q:oJ)(w off:Nat):List Ce->Wk×List Ce
 | []=>(k,[])
 |z::zs=>
  bif fJ z then
   let r:=Wk.qP (k.em (.kh w off) [y,ix]).1 y ix id q w (off+1) zs
   (r.1,.o id (q++[(ix,w,off)])::r.2)
  else
   let r:=Wk.qP (k.em (.aU w off) [y,ix]).1 y ix id q w (off+1) zs
   (r.1,.p (k.em (.aU w off) [y,ix]).2::r.2)
def storeAt(cx:Cx)(k:Wk)(t:Nat)(ad v:SV):Option Wk:=
 (cx.ty t).bind λti=>(cellsOf v).bind λcs=>
 bif Nat.beq cs.length ti.sz then
  match ad with
  | .pt bx off=>
   match k.get (.x bx)with
   | .v ag zD=>bif Nat.ble (off+cs.length) zD.length then some (k.set (.x bx) (.v ag (gB zD off cs)))else none
   |_=>none
  | .ep id q ix w off=>
   bif Nat.beq (id%4) 2 then none else
   bif ti.zero.any fJ then
    match q with
    | []=>(k.flat id).bind λk=>(k.eu cs).bind λk=>(k.jJ cs).bind λ(k,xs)=>
     match k.get (.o id)with
     | .ob _ x=>
      let(k,y):=k.em (.put false w off xs.length) (x::ix::xs)
      some (k.set (.o id) (.ob false y))
     |_=>none
    |_=>none
   else(k.jJ cs).bind λ(k,xs)=>
    match k.get (.o id)with
    | .ob dp x=>
     bif dp||q.isEmpty then
      let(k,y):=k.down x q
      let(k,y):=k.em (.put true w off xs.length) (y::ix::xs)
      let(k,y):=k.up x y q
      some (k.set (.o id) (.ob dp y))
     else none
    |_=>none
  |_=>none
 else none
def JF(cx:Cx)(k:Wk)(t:Nat)(ad v:SV):Option Wk:=
 match ad with
 | .ep id [] ix w off=>
  (cx.ty t).bind λti=>(cellsOf v).bind λcs=>
  bif Nat.beq cs.length ti.sz&&ti.zero.any fJ&&Nat.beq (id%4) 0 then
   match k.get (.o id)with
   | .ob true x=>(k.d_ ti.zero cs).bind λ(k2,xs)=>
    match k2.get (.o id)with
    | .ob true _=>
     let(k3,y):=k2.em (.fv (ti.zero.map λz=>!fJ z) w off) (x::ix::xs)
     some (k3.set (.o id) (.ob true y))
    |_=>none
   |_=>none
  else none
 |_=>none
def loadAt(cx:Cx)(nest:Bool)(k:Wk)(t:Nat):SV->Option (Wk×SV)
 | .pt bx off=>(cx.ty t).bind λti=>
  match k.get (.x bx)with
  | .v _ cs=>bif Nat.ble (off+ti.sz) cs.length then some (k,.v ti.ag ((cs.drop off).take ti.sz))else none
  |_=>none
 | .fp s ix w off=>(cx.ty t).bind λti=>
  let(k,cs):=k.row false s ix w off ti.sz
  some (k,.v ti.ag cs)
 | .ep id q ix w off=>(cx.ty t).bind λti=>
  match k.get (.o id)with
  | .ob true x=>
   bif nest&&ti.zero.any fJ&&Nat.beq ti.zero.length ti.sz&&Nat.beq (id%2) 1 then
    let(k,y):=k.down x q
    let(k,cs):=k.qP y ix id q w off ti.zero
    some (k,.v ti.ag cs)
   else bif ti.zero.any fJ then
    match q with
    | []=>bif Nat.beq (id%2) 0 then
      let(k,cs):=k.row false x ix w off ti.sz
      some (k,.v ti.ag cs)
     else(k.flat id).bind λk=>
     let(k,cs):=k.row false x ix w off ti.sz
     some (k,.v ti.ag cs)
    |_=>none
   else
    let(k,y):=k.down x q
    let(k,cs):=k.row true y ix w off ti.sz
    some (k,.v ti.ag cs)
  | .ob false x| .fz _ x=>
   match q with
   | []=>
    let(k,cs):=k.row false x ix w off ti.sz
    some (k,.v ti.ag cs)
   |_=>none
  |_=>none
 |_=>none
def pi(i:Nat):Nat:=i+(1-i%2)
def fe(i:Nat):Nat:=i+(4-i%4)%4
def oK(i:Nat):Nat:=i+(6-i%4)%4
theorem JG(i:Nat):i<=pi i:=by unfold pi;omega
theorem Cg(i:Nat):i<=fe i:=by unfold fe;omega
theorem RN(i:Nat):i<=oK i:=by unfold oK;omega
theorem RO(i:Nat):oK i%4=2:=by unfold oK;omega
def II:Lf->Bool
 | .k (.int _ n)=>decide (n=0)
 |_=>false
def Wk.nG(k:Wk)(y ix:Lf)(j:Nat)(w off:Nat):List Ce->Wk×List Ce×Lf
 | []=>(k,[],.e)
 |z::zs=>
  bif fJ z then
   let r:=Wk.nG (k.em (.kh w off) [y,ix]).1 y ix j w (off+1) zs
   (r.1,.o j []::r.2.1,(k.em (.kh w off) [y,ix]).2)
  else
   let r:=Wk.nG (k.em (.aU w off) [y,ix]).1 y ix j w (off+1) zs
   (r.1,.p (k.em (.aU w off) [y,ix]).2::r.2.1,r.2.2)
def JH(cx:Cx)(k:Wk)(t:Nat):SV->Option (Wk×SV)
 | .ep id [] ix w off=>(cx.ty t).bind λti=>
  match k.get (.o id)with
  | .fz (.w tk x0 lo) x=>
   match k.get (.o tk)with
   | .tk y0 m=>
    bif II lo&&x0.beq y0&&Nat.beq (ti.zero.filter fJ).length 1&&Nat.beq ti.zero.length ti.sz then
     let j:=oK k.ct.i
     let r:=k.nG x ix j w off ti.zero
     let q:=r.1.em .yI [m,ix]
     some ({((q.1.set (.o tk) (.tk y0 q.2)).set (.o j) (.fl r.2.2))with ct:=⟨q.1.ct.a,j+1⟩},.v ti.ag r.2.1)
    else none
   |_=>none
  |_=>none
 |_=>none
def indexAt(cx:Cx)(k:Wk)(t:Nat)(s ix:SV):Option (Wk×SV):=
 (cx.ty t).bind λti=>(cx.ty ti.el).bind λte=>
 bif Nat.beq ti.kd 3 then
  (k.one ix).bind λ(k,i)=>
   match s with
   | .v false [.p x]=>
    let(k,_):=k.em .kg [x,i]
    some (k,.fp x i te.sz 0)
   | .v false [.o id q]=>
    match k.get (.o id),q with
    | .ob true x,q=>
     let(k,y):=k.down x q
     let(k,_):=k.em .kg [y,i]
     some (k,.ep id q i te.sz 0)
    | .ob false x,[]=>
     let(k,_):=k.em .kg [x,i]
     some (k,.ep id [] i te.sz 0)
    | .fz (.w tk x0 lo) x,[]=>
     let(k,_):=k.em .kg [x,i]
     bif II lo then some (k,.ep id [] i te.sz 0)else some (k,.fp x i te.sz 0)
    | .fz _ x,[]=>
     let(k,_):=k.em .kg [x,i]
     some (k,.fp x i te.sz 0)
    |_,_=>none
   |_=>none
 else none
def fieldAt(cx:Cx)(t f:Nat):SV->Option SV
 | .pt bx off=>(cx.ty t).bind λti=>(ti.fs[f]?).bind λo=>some (.pt bx (off+o.1))
 | .ep id q ix w off=>(cx.ty t).bind λti=>(ti.fs[f]?).bind λo=>some (.ep id q ix w (off+o.1))
 | .fp s ix w off=>(cx.ty t).bind λti=>(ti.fs[f]?).bind λo=>some (.fp s ix w (off+o.1))
 |_=>none
def Wk.args(k:Wk):List SV->List PS->Option (Wk×List Lf×List (Nat×Bool×Nat))
 | [],[]=>some (k,[],[])
 | .v ag cs::vs,.v yK n::ps=>
  bif (ag==yK)&&Nat.beq cs.length n then
   (k.jJ cs).bind λ(k,xs)=>(Wk.args k vs ps).bind λ(k,ys,bs)=>some (k,xs++ys,bs)
  else none
 | .pt bx 0::vs,.x n::ps=>
  match k.get (.x bx)with
  | .v ag cs=>
   bif Nat.beq cs.length n then
    (k.eu cs).bind λk=>(k.jJ cs).bind λ(k,xs)=>(Wk.args k vs ps).bind λ(k,ys,bs)=>some (k,xs++ys,(bx,ag,n)::bs)
   else none
  |_=>none
 |_,_=>none
def E6:SV->List Ce
 | .v _ cs=>cs
 |_=>[]
def xj:List SV->List Ce
 | []=>[]
 |v::vs=>E6 v++xj vs
def rF(sg:pG):Bool:=sg.rs.any (λr=>r.2.any λ | .p| .o false=>true|_=>false)||sg.ps.any λ | .x _=>true|_=>false
def fM:Ct->List Ck->Ct×List Ce×St
 |ct,[]=>(ct,[],[])
 |ct,.o dp::ks=>
  let r:=fM ⟨ct.a+1,pi ct.i+1⟩ ks
  (r.1,.o (pi ct.i) []::r.2.1,(.o (pi ct.i),.ob dp (.a ct.a))::r.2.2)
 |ct,_::ks=>
  let r:=fM ⟨ct.a+1,ct.i⟩ ks
  (r.1,.p (.a ct.a)::r.2.1,r.2.2)
def pH:Ct->List (Bool×List Ck)->Ct×List (Bool×List Ce)×St
 |ct,[]=>(ct,[],[])
 |ct,r::rs=>
  let x:=fM ct r.2
  let y:=pH x.1 rs
  (y.1,(r.1,x.2.1)::y.2.1,x.2.2++y.2.2)
def Es(a:Nat):Nat->List Ce
 |0=>[]
 |n+1=>.p (.a a)::Es (a+1) n
def vu:Nat->List (Nat×Bool×Nat)->Nat×St
 |a,[]=>(a,[])
 |a,(bx,ag,n)::bs=>
  let r:=vu (a+n) bs
  (r.1,(.x bx,.v ag (Es a n))::r.2)
def vw:List (Bool×List Ce)->SV
 | []=>.un
 | [v]=>.v v.1 v.2
 |vs=>.tp vs
def xk:List Nat->Bool
 | []=>true
 |x::xs=>!(xs.any (Nat.beq x))&&xk xs
def RP(k:Wk)(d:Nat)(dst:Option Nat)(g:Nat)(sg:pG)(vs:List SV):Option Wk:=
 (bif rF sg then k.eu (xj vs)else some k).bind λk=>
 (k.args vs sg.ps).bind λ(k,xs,bs)=>
 bif xk (bs.map (·.1))then
  let r:=pH k.ct sg.rs
  let b:=vu r.1.a bs
  let dw:St:=match dst with|some n=>[(.t d n,vw r.2.1)]|none=>[]
  some {r:=k.r,w:=(dw++(r.2.2++b.2))++k.w,ct:=⟨b.1,r.1.i⟩,is:=.cl g xs (b.1-k.ct.a)::k.is}
 else none
def zE(cs:List Ce):List (Nat×List Ce)->Option (List Ce)
 | []=>some cs
 |(off,vs)::ps=>bif Nat.ble (off+vs.length) cs.length then zE (gB cs off vs) ps else none
def parts(d:Nat)(s:bD->SV)(fs:List (Nat×Nat)):List (Nat×Operand)->Option (List (Nat×List Ce))
 | []=>some []
 |(f,x)::ps=>(fs[f]?).bind λo=>(cellsOf (cz d s x)).bind λcs=>bif Nat.beq cs.length o.2 then(parts d s fs ps).bind λl=>some ((o.1,cs)::l)else none
def np:Ce->Nat
 | .p (.k (.int _ _))=>1
 | .p (.k (.string _))=>2
 | .p (.k (.bool _))=>4
 |_=>0
def RQ(k:Wk)(op:BinOp)(ks:List Nat)(xs ys:List Ce):Option (Wk×Lf):=
 (k.jJ xs).bind λ(k,xs)=>(k.jJ ys).bind λ(k,ys)=>
  let(k,r):=k.em (.eqs ks) (xs++ys)
  match op with
  | .eql=>some (k,r)
  | .neq=>some (k.em (.un .not) [r])
  |_=>none
def oQ(zs:List Ce):Nat->List Ce
 |0=>[]
 |n+1=>zs++oQ zs n
def JI(k:Wk):SV->Option (Wk×Lf×Bool)
 | .v false [.n]=>some (k,.e,true)
 | .v false [.o id []]=>
  match k.get (.o id)with
  | .ob dp x=>bif Nat.beq (id%4) 2 then none else some (k.set (.o id) .un,x,dp)
  |_=>none
 |_=>none
def Wk.gC(k:Wk):SV->Option Wk
 | .v false [.o j []]=>
  match k.get (.o j)with
  | .fz (.w tk x0 lo) y=>
   match k.get (.o tk)with
   | .tk y0 m=>bif x0.beq y0&&Nat.beq (j%4) 0 then
     let r:=k.em .gy [m,lo,y]
     some ((r.1.set (.o tk) (.tk y0 r.2)).set (.o j) (.fr y))
    else none
   |_=>none
  |_=>none
 |_=>none
def Wk.xl(k:Wk)(b:Bool)(v:SV):Wk:=
 match(bif b then k.gC v else none)with
 |some k'=>k'
 |none=>k
def Ch(sl fz:Bool)(k:Wk):SV->Option (Wk×Lf×Bool)
 | .v false [.n]=>some (k,.e,true)
 | .v false [.p x]=>some (k,x,!sl)
 | .v false [.o id q]=>
  bif sl then
   match k.get (.o id),q with
   | .ob dp x,[]=>bif dp&& !fz then some (k.set (.o id) .un,x,true)else some (k.set (.o id) (.ob false x),x,false)
   | .fz _ x,[]=>some (k,x,false)
   | .fr x,[]=>bif fz then none else some (k.set (.o id) .un,x,true)
   |_,_=>none
  else(k.val (.o id q)).bind λr=>some (r.1,r.2,true)
 |_=>none
def Ci(cx:Cx)(k:Wk)(t:Nat)(x:SV)(lo hi:Option SV):Option (Wk×SV):=
 match x with
 | .v false [.o id []]=>
  match k.get (.o id)with
  | .fz (.w tk x0 l0) y=>
   (cx.ty t).bind λti=>(cx.ty ti.el).bind λte=>
   bif Nat.beq ti.kd 3&&II l0 then
    (match lo with
     |none=>some (k,[])
     |some l=>(k.one l).bind λ(k,l)=>some (k,[l])).bind λ(k,ls)=>
    (match hi with
     |none=>some (k,[])
     |some h=>(k.one h).bind λ(k,h)=>some (k,[h])).bind λ(k,hs)=>
    let r:=k.em (.sub te.sz lo.isSome hi.isSome) (y::(ls++hs))
    let j:=fe k.ct.i
    some ({(r.1.set (.o j) (.fz (.w tk x0 (ls.headD (.k (.int .i64 0)))) r.2))with ct:=⟨r.1.ct.a,j+1⟩},.v false [.o j []])
   else none
  |_=>none
 |_=>none
def jm(cx:Cx)(cV ft:Nat)(d:Nat)(o:Oper)(oi:Nat)(k:Wk):Option Wk:=
 let put (k:Wk) (v:SV):Wk:=match o.dst with|some n=>k.set (.t d n) v|none=>k
 let one (x:Operand):SV:=cz d k.get x
 let lf (r:Wk×Lf):Option Wk:=some (put r.1 (.v false [.p r.2]))
 match o.op with
 | .move x| .assign x=>some (put k (one x))
 | .alloc t=>(cx.ty t).bind λti=>some (put {(k.set (.x k.ct.i) (.v ti.ag ti.zero))with ct:=⟨k.ct.a,k.ct.i+1⟩} (.pt k.ct.i 0))
 | .box t x=>(cx.ty t).bind λti=>(cellsOf (one x)).bind λcs=>
   bif Nat.beq cs.length ti.sz then some (put {(k.set (.x k.ct.i) (.v ti.ag cs))with ct:=⟨k.ct.a,k.ct.i+1⟩} (.pt k.ct.i 0))else none
 | .build t ps=>(cx.ty t).bind λti=>bif ti.ag then(parts d k.get ti.fs ps.toList).bind λl=>(zE ti.zero l).bind λcs=>some (put k (.v true cs))else none
 | .buildSlice t n ps=>(cx.ty t).bind λti=>(cx.ty ti.el).bind λte=>bif Nat.beq ti.kd 3&&Nat.ble (n*te.sz) 65536&&Nat.blt 0 te.sz then
   (parts d k.get ((List.range n).map λi=>(i*te.sz,te.sz)) ps.toList).bind λl=>(zE (oQ te.zero n) l).bind λcs=>
    (k.tO (cx.fz cV ft oi) (oQ te.zero n) cs).bind λ(k,xs,dp)=>
     let(k,y):=k.em (.lit te.sz (bif dp then(oQ te.zero n).map (λz=>!fJ z)else [])) xs
     let id:=fe k.ct.i
     some (put {(k.set (.o id) (.ob dp y))with ct:=⟨k.ct.a,id+1⟩} (.v false [.o id []]))
   else none
 | .makeSlice t l c=>(cx.ty t).bind λti=>(cx.ty ti.el).bind λte=>(k.one (one l)).bind λ(k,n)=>(k.one (one c)).bind λ(k,m)=>
   (k.jJ te.zero).bind λ(k,zs)=>bif Nat.beq ti.kd 3&&Nat.ble te.bytes 65536&&Nat.blt 0 te.sz then
    let(k,y):=k.em .mk (n::m::zs)
    let id:=fe k.ct.i
    some (put {(k.set (.o id) (.ob true y))with ct:=⟨k.ct.a,id+1⟩} (.v false [.o id []]))
   else none
 | .load t a=>(match(bif cx.fz cV ft oi then JH cx k t (one a)else none)with|some r=>some r|none=>loadAt cx (cx.nest cV) k t (one a)).bind λ(k,v)=>some (put k v)
 | .store t a x=>(match(bif cx.fz cV ft oi then none else JF cx k t (one a) (one x))with|some k=>some k|none=>storeAt cx k t (one a) (one x)).bind λk=>some (put k .un)
 | .nilCheck x=>match one x with
   | .pt bx off=>some (put k (.pt bx off))
   | .ep id q ix w off=>some (put k (.ep id q ix w off))
   | .fp s ix w off=>some (put k (.fp s ix w off))
   |_=>none
 | .binOp op t x y _=>match one x,one y with
   | .v false [a],.v false [b]=>(cx.ty t).bind λti=>(k.val a).bind λ(k,a)=>(k.val b).bind λ(k,b)=>
     bif Nat.beq ti.kd 4 then lf (k.em (.bb op) [a,b])
     else bif Nat.beq ti.kd 1||Nat.beq ti.kd 2 then lf (k.em (.bin op) [a,b])else none
   | .v true es,.v true bs=>(cx.ty t).bind λti=>bif Nat.beq ti.kd 5&&Nat.beq es.length ti.sz then(RQ k op (ti.zero.map np) es bs).bind lf else none
   |_,_=>none
 | .unOp op _ x=>(k.one (one x)).bind λ(k,a)=>lf (k.em (.un op) [a])
 | .convert s t x=>(cx.ty s).bind λsi=>(cx.ty t).bind λti=>(k.one (one x)).bind λ(k,a)=>
   match ti.zero with
   | [.p (.k (.int kk _))]=>bif Nat.beq ti.kd 1&&Nat.beq si.kd 1 then lf (k.em (.IH kk) [a])else none
   | [.p (.k (.string _))]=>bif Nat.beq ti.kd 2&&Nat.beq si.kd 3 then(cx.ty si.el).bind λte=>
     match te.zero with
     | [.p (.k (.int .u8 _))]=>bif Nat.beq te.kd 1 then lf (k.em .str [a])else none
     |_=>none
    else none
   |_=>none
 | .slice t x lo hi mx=>match(bif mx.isSome then none else Ci cx k t (one x) (lo.map one) (hi.map one))with
  |some (k,v)=>some (put k v)
  |none=>(cx.ty t).bind λti=>(k.eu (E6 (one x))).bind λk=>(k.one (one x)).bind λ(k,a)=>
   match mx with
   |some _=>none
   |none=>
   (match lo with
    |none=>some (k,[])
    |some l=>(k.one (one l)).bind λ(k,l)=>some (k,[l])).bind λ(k,ls)=>
   (match hi with
    |none=>some (k,[])
    |some h=>(k.one (one h)).bind λ(k,h)=>some (k,[h])).bind λ(k,hs)=>
   bif Nat.beq ti.kd 3 then(cx.ty ti.el).bind λte=>lf (k.em (.sub te.sz lo.isSome hi.isSome) (a::(ls++hs)))
   else bif Nat.beq ti.kd 2 then lf (k.em (.Cc lo.isSome hi.isSome) (a::(ls++hs)))else none
 | .fieldAddr t x f=>(fieldAt cx t f (one x)).bind λv=>some (put k v)
 | .indexAddr t x i=>(indexAt cx k t (one x) (one i)).bind λ(k,v)=>some (put k v)
 | .index t x i=>(cx.ty t).bind λti=>(k.one (one x)).bind λ(k,a)=>(k.one (one i)).bind λ(k,i)=>
   bif Nat.beq ti.kd 2 then lf (k.em .idx [a,i])else none
 | .extract x i=>match one x with
   | .tp vs=>(vs[i]?).bind λv=>some (put k (.v v.1 v.2))
   |_=>none
 | .makeFunc (.func f) first zF=>bif first.isEmpty then
   (zF.toList.mapM λx=>match one x with| .pt b 0=>some b|_=>none).bind λbs=>some (put k (.cl f bs))else none
 | .call c=>match c.callee,c.args.toList with
   | .builtin .len,[x]=>((c.argTypes[0]?).bind cx.ty).bind λti=>(k.one (one x)).bind λ(k,a)=>
     bif Nat.beq ti.kd 3 then lf (k.em .len [a])else bif Nat.beq ti.kd 2 then lf (k.em .lens [a])else none
   | .builtin .max,[x,y]=>(k.one (one x)).bind λ(k,a)=>(k.one (one y)).bind λ(k,b)=>lf (k.em .mx [a,b])
   | .builtin .min,[x,y]=>(k.one (one x)).bind λ(k,a)=>(k.one (one y)).bind λ(k,b)=>lf (k.em .mn [a,b])
   | .builtin .append,[x,y]=>match c.argTypes.toList with
    | [t,tx]=>(cx.ty t).bind λti=>(cx.ty tx).bind λtj=>(cx.ty ti.el).bind λte=>
     bif Nat.beq ti.kd 3&&Nat.beq tj.kd 3&&Nat.ble te.bytes 32768&&Nat.blt 0 te.sz then
     let sl:=te.zero.any fJ
     (JI k (one x)).bind λ(k,a,dp)=>(Ch sl (cx.fz cV ft oi) (k.xl (sl&& !cx.fz cV ft oi) (one y)) (one y)).bind λ(k,b,wL)=>
     let(k,r):=k.em (.app (!sl) te.sz) [a,b]
     let id:=fe k.ct.i
     some (put {(k.set (.o id) (.ob (dp&&wL) r))with ct:=⟨k.ct.a,id+1⟩} (.v false [.o id []]))
     else none
    |_=>none
   | .value (.func g),xs=>(cx.sg g).bind λsg=>RP k d o.dst g sg (xs.map one)
   |_,_=>none
 |_=>none
def E7:List Ce->List bD
 | []=>[]
 | .o id _::cs=>.o id::E7 cs
 |_::cs=>E7 cs
def aaW:SV->List bD
 | .v _ cs=>E7 cs
 | .pt bx _=>[.x bx]
 | .ep id _ _ _ _=>[.o id]
 | .cl _ bs=>bs.map .x
 | .tp vs=>vs.flatMap λv=>E7 v.2
 | .fz (.w tk _ _) _=>[.o tk]
 |_=>[]
def xm(o:Oper):List Nat:=o.op.operands.toList.filterMap λ | .tmp t=>some t|_=>none
def deep(s:St):List bD->List bD
 | []=>[]
 |r::rs=>aaW (s.get r)++deep s rs
def aaX:Op->Bool
 | .move _| .assign _| .fieldAddr .. | .build .. | .box .. | .makeFunc .. | .nilCheck _| .alloc _| .extract ..=>false
 |_=>true
def aaY:Op->Bool
 | .load .. | .call _=>true
 |_=>false
def JJ:List bD->List bD
 | []=>[]
 | .o n::rs=>.o n::JJ rs
 |_::rs=>JJ rs
def JK:List bD->List bD
 | []=>[]
 | .x n::rs=>.x n::JK rs
 |_::rs=>JK rs
def E8(d:Nat)(s:St)(o:Oper):List bD:=
 let ts:=(xm o).map (bD.t d)
 bif aaX o.op then
  let m:=deep s ts
  let b:=deep s (JK m)
  ts++m++b++bif aaY o.op then deep s (JJ (m++b))else []
 else ts
def St.only(s:St):List bD->St
 | []=>[]
 |r::rs=>(r,s.get r)::St.only s rs
def St.fw(s:St):St->St
 | []=>s
 |(r,v)::w=>(St.fw s w).set r v
structure Tr where
 rd:List bD
 wr:List bD
def E9(xs ys:List bD):Bool:=xs.any λx=>ys.any x.beq
def xn(a b:Tr):Bool:=!E9 a.wr b.rd&& !E9 a.wr b.wr&& !E9 a.rd b.wr
def s_:List Nat->List Oper->List Nat
 |acc,[]=>acc
 |acc,o::os=>s_ (acc++[o.after.toList.foldl (λs e=>bif Region.binds .any e&&Nat.blt e.on acc.length then s|||(2^e.on)|||(acc.getD e.on 0)else s) 0]) os
def xo:Nat->List Oper->Bool
 |_,[]=>true
 |i,o::os=>o.after.toList.all (λe=>!Region.binds .any e||Nat.blt e.on i)&&xo (i+1) os
def yL(nt:Nat):Code->Bool
 | .region _ ops _=>ops.toList.all λo=>match o.dst with|some n=>Nat.blt n nt|none=>true
 | .seq a b=>yL nt a&&yL nt b
 | .cond _ a b=>yL nt a&&yL nt b
 | .block _ a=>yL nt a
 | .loop a=>yL nt a
 | .scope a=>yL nt a
 |_=>true
def E_(bj:Nat)(t:Tr):Nat->List Tr->Bool
 |_,[]=>true
 |i,u::us=>(Nat.testBit bj i||xn u t)&&E_ bj t (i+1) us
def xp:List Tr->List Tr->List Nat->Bool
 |done,t::ts,b::bs=>E_ b t 0 done&&xp (done++[t]) ts bs
 |_,_,_=>true
def JL(s:SV):Option Lf:=
 match s with
 | .v false [.p x]=>some x
 |_=>none
inductive Dec where
 |nil
 |is (b:Bool)
 |ask (n:Nat)
 |no
def sN(fs:kj)(s:SV):Dec:=
 match s with
 | .tp _=>.nil
 |s=>
 match JL s with
 |some (.k (.bool b))=>.is b
 |some (.a n)=>match fact fs n with
  |some b=>.is b
  |none=>.ask n
 |_=>.no
def wrap:List E5->PL->PL
 | [],k=>k
 |i::is,k=>wrap is (.ins i k)
abbrev KP:=Nat->St->Ct->kj->Option PL
def E'(cx:Cx)(d:Nat)(s:St)(o:Oper):Option (Nat×List SV):=
 match o.op with
 | .call c=>match c.callee with
  | .value x=>match cz d s.get x with
   | .cl g bs=>match cx.sg g with
    |some _=>none
    |none=>some (g,c.args.toList.map (cz d s.get)++bs.map λb=>.pt b 0)
   |_=>none
  |_=>none
 |_=>none
abbrev qQ:=Nat->Nat->List SV->Nat->St->Ct->kj->(List SV->KP)->Option PL
def wM:List SV->Option (List (Bool×List Ce))
 | []=>some []
 | .v ag cs::vs=>(wM vs).bind λl=>some ((ag,cs)::l)
 |_=>none
def sy:List E5->Nat
 | []=>0
 | .pr _ _::is=>sy is+1
 | .cl _ _ m::is=>sy is+m
def Lf.jG(a:Nat):Lf->Bool
 | .a n=>Nat.blt n a
 |_=>true
def tP:Nat->List E5->Bool
 |_,[]=>true
 |e,.pr _ xs::is=>Nat.blt 0 e&&xs.all (Lf.jG (e-1))&&tP (e-1) is
 |e,.cl _ xs m::is=>Nat.ble m e&&xs.all (Lf.jG (e-m))&&tP (e-m) is
def Bm(d:Nat)(ops:Array Oper)(o:Oper):List bD:=
 match o.guard with
 |none=>[]
 |some (j,_)=>match(ops[j]?).bind (·.dst)with
  |some g=>[.t d g]
  |none=>[]
def xq(d:Nat)(s:St)(o:Oper)(fs:kj):Option (Dec×SV×SV):=
 match o.op with
 | .pick c a b=>some (sN fs (cz d s.get c),cz d s.get a,cz d s.get b)
 |_=>none
abbrev Rec:=List Tr->Nat->St->Ct->kj->Option PL
def Fa(d:Nat)(ops:Array Oper)(o:Oper)(rc:Rec)(tr:List Tr)(lv:Nat)(s:St)(ct:Ct)(fs:kj):Option PL:=
 match o.dst with
 |some n=>rc (tr++[⟨Bm d ops o,[.t d n]⟩]) lv (s.set (.t d n) (.tp [])) ct fs
 |none=>rc (tr++[⟨Bm d ops o,[]⟩]) lv s ct fs
def zG(d:Nat)(ops:Array Oper)(o:Oper)(rc:Rec)(tr:List Tr)(lv:Nat)(s:St)(ct:Ct)(fs:kj)(v:SV):Option PL:=
 match o.dst with
 |some n=>rc (tr++[⟨Bm d ops o++(xm o).map (bD.t d),[.t d n]⟩]) lv (s.set (.t d n) v) ct fs
 |none=>none
def Fb(d:Nat)(o:Oper)(rc:Rec)(tr:List Tr):List SV->KP:=λrs lv s ct fs=>
 match o.dst,rs with
 |none,_=>rc tr lv s ct fs
 |some n,[v]=>rc tr lv (s.set (.t d n) v) ct fs
 |some n,[]=>rc tr lv (s.set (.t d n) .un) ct fs
 |some n,rs=>(wM rs).bind λvs=>rc tr lv (s.set (.t d n) (.tp vs)) ct fs
def ZS(cx:Cx)(dL:qQ)(cV ft d:Nat)(ops:Array Oper)(draw:Bool)(o:Oper)(i:Nat)(rc:Rec)(tr:List Tr)(lv:Nat)(s:St)(ct:Ct)(fs:kj):Option PL:=
 match xq d s o fs with
 |some (dc,a,b)=>
  match dc with
  | .is true=>zG d ops o rc tr lv s ct fs a
  | .is false=>zG d ops o rc tr lv s ct fs b
  | .ask n=>(zG d ops o rc tr lv s ct ((n,true)::fs) a).bind λx=>(zG d ops o rc tr lv s ct ((n,false)::fs) b).bind λy=>some (.ite n x y)
  | .nil| .no=>some (.tK (cV*100000000+2000000+ft*1000+i) [s])
 |none=>
  match E' cx d s o with
  |some (g,vs)=>
   bif draw then some (.tK (cV*100000000+4000000+ft*1000+i) [s])else
   dL (d+1) g vs lv s ct fs (Fb d o rc tr)
  |none=>
   match jm cx cV ft d o i ⟨s.only (E8 d s o),[],ct,[]⟩with
   |none=>some (.tK (cV*100000000+1000000+ft*1000+i) [s.only (E8 d s o)])
   |some k=>
    bif Nat.beq k.ct.a (ct.a+sy k.is)&&Nat.ble ct.i k.ct.i&&tP k.ct.a k.is then
     (rc (tr++[⟨Bm d ops o++E8 d s o,k.w.map (·.1)⟩]) lv (s.fw k.w) k.ct fs).bind λp=>some (wrap k.is p)
    else none
def Cl(cx:Cx)(dL:qQ)(cV ft d:Nat)(ops:Array Oper)(draw:Bool)(o:Oper)(i:Nat)(rc:Rec)(tr:List Tr)(lv:Nat)(s:St)(ct:Ct)(fs:kj):Option PL:=
 let run:=ZS cx dL cV ft d ops draw o i rc tr lv s ct
 let skip:=Fa d ops o rc tr lv s ct
 match o.guard with
 |none=>run fs
 |some (j,want)=>
  match(ops[j]?).bind (·.dst)with
  |none=>none
  |some g=>
   match sN fs (s.get (.t d g))with
   | .nil=>skip fs
   | .is b=>bif b==want then run fs else skip fs
   | .ask n=>(bif true==want then run ((n,true)::fs)else skip ((n,true)::fs)).bind λx=>
     (bif false==want then run ((n,false)::fs)else skip ((n,false)::fs)).bind λy=>some (.ite n x y)
   | .no=>some (.tK (cV*100000000+3000000+ft*1000+i) [s])
def vx(cx:Cx)(dL:qQ)(cV ft d:Nat)(ops:Array Oper)(draw:Bool)(fin:List Tr->KP):
  List Oper->Nat->Rec
 | [],_=>fin
 |o::os,i=>Cl cx dL cV ft d ops draw o i (vx cx dL cV ft d ops draw fin os (i+1))
inductive Ex where
 |normal
 |exit (id:Nat)
 |ret
def xr:oJ->oJ->Bool
 | [],[]=>true
 |(x,w,j)::p,(x',w',j')::q=>x.beq x'&&Nat.beq w w'&&Nat.beq j j'&&xr p q
 |_,_=>false
def Ce.beq:Ce->Ce->Bool
 | .p x,.p y=>x.beq y
 | .o i s,.o j t=>Nat.beq i j&&xr s t
 | .n,.n=>true
 | .d,.d=>true
 |_,_=>false
def xt:List Ce->List Ce->Bool
 | [],[]=>true
 |c::cs,e::es=>c.beq e&&xt cs es
 |_,_=>false
def zH:List Nat->List Nat->Bool
 | [],[]=>true
 |c::cs,e::es=>Nat.beq c e&&zH cs es
 |_,_=>false
def zI:List (Bool×List Ce)->List (Bool×List Ce)->Bool
 | [],[]=>true
 |(a,cs)::vs,(b,es)::us=>(a==b)&&xt cs es&&zI vs us
 |_,_=>false
def Pv.beq:Pv->Pv->Bool
 | .z,.z=>true
 | .w t x l,.w u y m=>Nat.beq t u&&x.beq y&&l.beq m
 |_,_=>false
def SV.beq:SV->SV->Bool
 | .un,_=>true
 | .v a cs,.v b es=>(a==b)&&xt cs es
 | .pt a b,.pt c d=>Nat.beq a c&&Nat.beq b d
 | .ep i p x w j,.ep i' q x' w' j'=>Nat.beq i i'&&xr p q&&x.beq x'&&Nat.beq w w'&&Nat.beq j j'
 | .fp s x w j,.fp s' x' w' j'=>s.beq s'&&x.beq x'&&Nat.beq w w'&&Nat.beq j j'
 | .tp vs,.tp us=>zI vs us
 | .cl f bs,.cl g cs=>Nat.beq f g&&zH bs cs
 | .ob a x,.ob b y=>(a==b)&&x.beq y
 | .fz p x,.fz q y=>p.beq q&&x.beq y
 | .tk x m,.tk y n=>x.beq y&&m.beq n
 | .fl x,.fl y=>x.beq y
 | .fr x,.fr y=>x.beq y
 |_,_=>false
def rG(d:Nat)(s:St)(n:Nat)(bx:Bool):bD:=
 bif bx then match s.get (.t d n)with| .pt b _=>.x b|_=>.t d n else .t d n
def JM(d:Nat)(s:St)(r:bD):Js->Bool
 | []=>false
 |(_,_,.rows _)::js=>JM d s r js
 |(n,bx,_)::js=>(rG d s n bx).beq r||JM d s r js
def Cm:Ct->List Ce->List Cj->Ct×List Ce×St×List Nat
 |ct,_,[]=>(ct,[],[],[])
 |ct,cs,j::js=>
  let c:=cs.headD .d
  match j with
  | .k=>let(ct,es,w,ds):=Cm ct cs.tail js;(ct,c::es,w,ds)
  | .p=>let(iJ,es,w,ds):=Cm ⟨ct.a+1,ct.i⟩ cs.tail js;(iJ,.p (.a ct.a)::es,w,ds)
  | .o dp=>
   let(iJ,es,w,ds):=Cm ⟨ct.a+1,fe ct.i+1⟩ cs.tail js
   (iJ,.o (fe ct.i) []::es,(.o (fe ct.i),.ob dp (.a ct.a))::w,match c with| .o id _=>id::ds|_=>ds)
  | .d=>let(ct,es,w,ds):=Cm ct cs.tail js;(ct,.d::es,w,match c with| .o id _=>id::ds|_=>ds)
def RR:SV->Option Nat
 | .fz (.w t _ _) _=>some t
 |_=>none
def Cn(s:St)(cs:List Ce):Ct->List (Nat×Bool)->Ct×St×List Nat
 |ct,[]=>(ct,[],[])
 |ct,(j,dp)::js=>
  match cs[j]? with
  |some (.o id _)=>
   match RR (s.get (.o id))with
   |some t=>
    match s.get (.o t)with
    | .tk x _=>let(iJ,w,ds):=Cn s cs ⟨ct.a+1,ct.i⟩ js;(iJ,(.o t,.tk x (.a ct.a))::w,t::ds)
    |_=>Cn s cs ct js
   |none=>let(iJ,w,ds):=Cn s cs ⟨ct.a+1,ct.i⟩ js;(iJ,(.o id,.ob dp (.a ct.a))::w,id::ds)
  |_=>Cn s cs ct js
def qR:SV->List Ce
 | .v _ cs=>cs
 |_=>[]
def Fc(d:Nat)(s:St):Ct->Js->Ct×St×St×List Nat
 |ct,[]=>(ct,[],[],[])
 |ct,(_,_,.drop)::js=>Fc d s ct js
 |ct,(n,bx,.aI ag cj)::js=>
  let r:=rG d s n bx
  let(ct,es,w,ds):=Cm ct (qR (s.get r)) cj
  let(ct,ps,ws,dds):=Fc d s ct js
  (ct,(r,.v ag es)::ps,w++ws,ds++dds)
 |ct,(n,bx,.rows rj)::js=>
  let(ct,w,ds):=Cn s (qR (s.get (rG d s n bx))) ct rj
  let(ct,ps,ws,dds):=Fc d s ct js
  (ct,ps,w++ws,ds++dds)
def JN(d:Nat)(s0:St)(js:Js)(ds:List Nat):St->St
 | []=>[]
 |(r,v)::s=>
  let gone:=match r with| .o id=>ds.any (Nat.beq id)|_=>false
  bif JM d s0 r js||gone then JN d s0 js ds s else(r,v)::JN d s0 js ds s
structure Head where
 s0:St
 kept:St
 new:St
 own:St
 c0:Ct
 ct:Ct
 js:Js
def Head.st(h:Head):St:=h.kept++h.own++h.new
def Fe(s:St):List Ce->List Cj->List (Nat×Bool)
 | .o id []::cs,.p::js=>(id,true)::Fe s cs js
 | .o id []::cs,.o false::js=>(id,false)::Fe s cs js
 |_::cs,_::js=>Fe s cs js
 |_,_=>[]
def Ff(cs:List Ce):List (Nat×Bool)->List (Nat×Bool)
 | []=>[]
 |(j,dp)::js=>
  match cs[j]? with
  |some (.o id _)=>bif dp then Ff cs js else(id,false)::Ff cs js
  |_=>Ff cs js
def xu(d:Nat)(s0 s:St):Js->List (Nat×Bool)
 | []=>[]
 |(_,_,.drop)::js=>xu d s0 s js
 |(n,bx,.aI _ cj)::js=>Fe s (qR (s.get (rG d s0 n bx))) cj++xu d s0 s js
 |(n,bx,.rows rj)::js=>Ff (qR (s0.get (rG d s0 n bx))) rj++xu d s0 s js
def Fg(s:St):List (Nat×Bool)->List Nat
 | []=>[]
 |(id,all)::l=>bif all then(match s.get (.o id)with| .ob _ _=>id::Fg s l|_=>Fg s l)else Fg s l
def Et(d:Nat)(s:St)(ct:Ct)(js:Js):Head:=
 let(iJ,ps,ws,ds):=Fc d s ct js
 {s0:=s,kept:=JN d s js (Fg s (xu d s s js)++ds) s,new:=ps,own:=ws,c0:=ct,ct:=iJ,js}
def vy(s:St):List (Nat×Bool)->St
 | []=>s
 |(id,all)::l=>
  match s.get (.o id)with
  | .ob _ x=>vy (s.set (.o id) (bif all then .fz .z x else .ob false x)) l
  |_=>vy s l
abbrev Ren:=List (Nat×Option Nat)
def RS(s:St):List Ce->List Ce->List Cj->Option (List Lf×Ren)
 | [],[],[]=>some ([],[])
 |c::cs,h::hs,j::js=>
  (RS s cs hs js).bind λ(xs,rn)=>
  match j with
  | .k| .d=>some (xs,rn)
  | .p=>match c with
   | .p x=>some (x::xs,rn)
   | .n=>some (.e::xs,rn)
   | .o id []=>match s.get (.o id)with
    | .fz _ x=>some (x::xs,rn)
    |_=>none
   |_=>none
  | .o dp=>match h with
   | .o i []=>match c with
    | .n=>some (.e::xs,(i,none)::rn)
    | .o id []=>match s.get (.o id)with
     | .ob _ x=>some (x::xs,(i,some id)::rn)
     |_=>none
    |_=>none
   |_=>none
 |_,_,_=>none
def Co(s0 s:St)(cs:List Ce):List (Nat×Bool)->Option (List Lf)
 | []=>some []
 |(j,dp)::js=>
  match cs[j]? with
  |some (.o id _)=>
   match RR (s0.get (.o id))with
   |some t=>
    match s0.get (.o t)with
    | .tk _ _=>match s.get (.o t)with
     | .tk _ m=>(Co s0 s cs js).bind λxs=>some (m::xs)
     |_=>none
    |_=>Co s0 s cs js
   |none=>match s.get (.o id)with
    | .ob _ x=>(Co s0 s cs js).bind λxs=>some (x::xs)
    |_=>none
  |_=>Co s0 s cs js
def Fh(d:Nat)(s0 s:St):St->Js->Option (List Lf×Ren)
 |ps,(_,_,.drop)::js=>Fh d s0 s ps js
 |(r',.v ag hs)::ps,(n,bx,.aI yK cj)::js=>
  (RS s (qR (s.get (rG d s0 n bx))) hs cj).bind λ(xs,rn)=>(Fh d s0 s ps js).bind λ(ys,rm)=>some (xs++ys,rn++rm)
 |ps,(n,bx,.rows rj)::js=>
  (Co s0 s (qR (s0.get (rG d s0 n bx))) rj).bind λxs=>(Fh d s0 s ps js).bind λ(ys,rm)=>some (xs++ys,rm)
 | [],[]=>some ([],[])
 |_,_=>none
def zJ(a:Nat):oJ->Bool
 | []=>true
 |(x,_,_)::q=>x.jG a&&zJ a q
def Ce.jG(a i:Nat):Ce->Bool
 | .p x=>x.jG a
 | .o id q=>Nat.blt id i&&zJ a q
 |_=>true
def rH(a i:Nat):List Ce->Bool
 | []=>true
 |c::cs=>c.jG a i&&rH a i cs
def zK(a i:Nat):List (Bool×List Ce)->Bool
 | []=>true
 |v::vs=>rH a i v.2&&zK a i vs
def Pv.jG(a i:Nat):Pv->Bool
 | .z=>true
 | .w t x l=>Nat.blt t i&&x.jG a&&l.jG a
def SV.jG(a i:Nat):SV->Bool
 | .un=>true
 | .v _ cs=>rH a i cs
 | .pt b _=>Nat.blt b i
 | .ep id q x _ _=>Nat.blt id i&&zJ a q&&x.jG a
 | .fp s x _ _=>s.jG a&&x.jG a
 | .tp vs=>zK a i vs
 | .cl _ bs=>bs.all λb=>Nat.blt b i
 | .ob _ x=>x.jG a
 | .fz p x=>p.jG a i&&x.jG a
 | .tk x m=>x.jG a&&m.jG a
 | .fl x=>x.jG a
 | .fr x=>x.jG a
def pk:Ren->Nat->Option (Option Nat)
 | [],_=>none
 |(j,x)::rn,i=>bif Nat.beq j i then some x else pk rn i
def oR:Ren->Nat->Option Nat
 | [],_=>none
 |(j,some x)::rn,i=>bif Nat.beq x i then some j else oR rn i
 |(_,none)::rn,i=>oR rn i
def pI(a0:Nat)(xs:List Lf)(n:Nat)(x:Lf):Bool:=
 Nat.ble a0 n&&(match xs[n-a0]? with|some y=>y.beq x|none=>false)
def JO(s:St)(a0 i0:Nat)(xs:List Lf)(rn:Ren)(c h:Ce):Bool:=
 (h.beq c&&h.jG a0 i0)||
 match h,c with
 | .p (.a n),.p x=>pI a0 xs n x
 | .p (.a n),.n=>pI a0 xs n .e
 | .p (.a n),.o id []=>(match s.get (.o id)with| .fz _ x=>pI a0 xs n x|_=>false)
 | .o j [],.n=>Nat.ble i0 j&&(match pk rn j with|some none=>true|_=>false)
 | .o j [],.o id []=>Nat.ble i0 j&&(match pk rn j with|some (some k)=>Nat.beq k id|_=>false)
 | .d,_=>true
 |_,_=>false
def rI(s:St)(a0 i0:Nat)(xs:List Lf)(rn:Ren):List Ce->List Ce->Bool
 | [],[]=>true
 |c::cs,h::hs=>JO s a0 i0 xs rn c h&&rI s a0 i0 xs rn cs hs
 |_,_=>false
def zL(s:St)(a0 i0:Nat)(xs:List Lf)(rn:Ren):St->Bool
 | []=>true
 |(r,.v ag hs)::ps=>
  (match r with| .o _=>false| .x b=>Nat.blt b i0| .t _ _=>true)&&
  (match s.get r with| .v yK cs=>(ag==yK)&&rI s a0 i0 xs rn cs hs|_=>false)&&zL s a0 i0 xs rn ps
 |_::_=>false
def xv(s:St)(a0 i0:Nat)(xs:List Lf)(rn:Ren):St->Bool
 | []=>true
 |(.o j,.ob dp (.a n))::ps=>
  (match pk rn j with
   |some (some id)=>Nat.ble i0 j&&(match s.get (.o id)with| .ob wL x=>(dp==wL)&&pI a0 xs n x|_=>false)
   |some none=>Nat.ble i0 j&&pI a0 xs n .e
   |none=>Nat.blt j i0&&(match oR rn j with|none=>true|some _=>false)&&(match s.get (.o j)with| .ob wL x=>(dp==wL)&&pI a0 xs n x|_=>false))&&
  xv s a0 i0 xs rn ps
 |(.o j,.tk x (.a n))::ps=>
  (Nat.blt j i0&&(match oR rn j with|none=>true|some _=>false)&&x.jG a0&&(match s.get (.o j)with| .tk y m=>x.beq y&&pI a0 xs n m|_=>false))&&
  xv s a0 i0 xs rn ps
 |_::_=>false
def SV.isU:SV->Bool
 | .un=>true
 |_=>false
def RT(i0:Nat)(rn:Ren):bD->Bool
 | .o id=>Nat.blt id i0&&(match oR rn id with|none=>true|some _=>false)
 | .x b=>Nat.blt b i0
 | .t _ _=>true
def Fi(s:St)(a0 i0:Nat)(rn:Ren):St->Bool
 | []=>true
 |(r,v)::h=>(v.isU||(v.beq (s.get r)&&v.jG a0 i0&&RT i0 rn r))&&Fi s a0 i0 rn h
def vz(i0 i1:Nat)(all:Ren):Ren->Bool
 | []=>true
 |(j,x)::rn=>Nat.ble i0 j&&Nat.blt j i1&&Nat.beq (j%2) 0&&(match x with|none=>true|some id=>!Nat.beq (id%4) 2&&(match oR all id with|some k=>Nat.beq k j|none=>false))&&vz i0 i1 all rn
def JP(h:Head)(s:St)(xs:List Lf)(rn:Ren):Bool:=
 Nat.beq (h.c0.a+xs.length) h.ct.a&&Nat.blt 0 h.ct.i&&Nat.ble h.c0.i h.ct.i&&vz h.c0.i h.ct.i rn rn&&Fi s h.c0.a h.c0.i rn h.kept&&xv s h.c0.a h.c0.i xs rn h.own&&zL s h.c0.a h.c0.i xs rn h.new
def gP(d:Nat)(h:Head)(s:St):Option (List Lf):=
 let s1:=vy s (xu d h.s0 s h.js)
 (Fh d h.s0 s1 h.new h.js).bind λ(xs,rn)=>bif JP h s1 xs rn then some xs else none
abbrev KE:=Ex->KP
def tQ(d:Nat):St->St
 | []=>[]
 |(.t e n,v)::s=>bif Nat.ble d e then tQ d s else(.t e n,v)::tQ d s
 |x::s=>x::tQ d s
def iN(s:St)(cs:List Ce):List (Nat×Bool)->St
 | []=>s
 |(j,all)::js=>
  match cs[j]? with
  |some (Ce.o id _)=>match s.get (.o id)with
   | .ob _ x=>iN (s.set (.o id) (bif all then .fz .z x else .ob false x)) cs js
   |_=>iN s cs js
  |_=>iN s cs js
def jQ(d:Nat)(s:St):Js->St
 | []=>s
 |(n,bx,.rows js)::l=>
  let cs:=qR (s.get (rG d s n bx))
  jQ d (iN s cs js) l
 |_::l=>jQ d s l
def iV(s:St)(ct:Ct)(cs:List Ce):List (Nat×Bool)->St×Ct
 | []=>(s,ct)
 |(j,_)::js=>
  match cs[j]? with
  |some (Ce.o id [])=>match s.get (.o id)with
   | .ob true x=>bif Nat.beq (id%2) 0 then iV ((s.set (.o id) (.fz (.w (oK ct.i) x (.k (.int .i64 0))) x)).set (.o (oK ct.i)) (.tk x x)) ⟨ct.a,oK ct.i+1⟩ cs js else iV s ct cs js
   |_=>iV s ct cs js
  |_=>iV s ct cs js
def j6(d:Nat)(s:St)(ct:Ct):Js->St×Ct
 | []=>(s,ct)
 |(n,bx,.rows js)::l=>
  let r:=iV s ct (qR (s.get (rG d s n bx))) js
  j6 d r.1 r.2 l
 |_::l=>j6 d s ct l
def RU(d:Nat)(h:Head)(lv tag:Nat):KP:=λZT s' iJ jR=>
 match gP d h s' with
 |some xs=>some (.go (ZT-lv-1) xs)
 |none=>some (.tK tag [h.st,s'])
def Cp(d:Nat)(h:Head)(lv tag:Nat)(K:KE):KE:=λe=>
 match e with
 | .normal=>RU d h lv tag
 |e=>K e
def Fj(id:Nat)(K:KE):KE:=λe=>
 match e with
 | .exit i=>bif Nat.beq i id then K .normal else K (.exit i)
 |e=>K e
def RV(cV id:Nat)(ops:Array Oper)(draw:Bool)(k:KP):List Tr->KP:=λtr lv s ct fs=>
 bif draw then
  bif xp [] tr (s_ [] ops.toList)&&xo 0 ops.toList then k lv s ct fs else some (.tK (cV*100000000+100000+id) [])
 else k lv s ct fs
def Fk(tag:Nat)(v:SV)(cx cy:kj->Option PL)(s:St)(fs:kj):Option PL:=
 match sN fs v with
 | .is b=>bif b then cx fs else cy fs
 | .ask n=>(cx ((n,true)::fs)).bind λp=>(cy ((n,false)::fs)).bind λq=>some (.ite n p q)
 | .nil| .no=>some (.tK tag [s])
def JQ(cx:Cx)(cV d id:Nat)(s:St):St:=match cx.tN cV 4 id with|none=>s|some js=>jQ d s js
def Fl(cx:Cx)(cV d id:Nat)(s:St)(ct:Ct):St×Ct:=match cx.tN cV 5 id with|none=>(s,ct)|some js=>j6 d s ct js
def comp(cx:Cx)(dL:qQ)(cV d:Nat):Code->Nat->Nat->St->Ct->kj->KE->Option PL
 | .skip,_,lv,s,ct,fs,K=>K .normal lv s ct fs
 | .label _,_,lv,s,ct,fs,K=>K .normal lv s ct fs
 | .seq a b,_,lv,s,ct,fs,K=>
  comp cx dL cV d a 0 lv s ct fs λe=>
   match e with
   | .normal=>λlv s ct fs=>comp cx dL cV d b 0 lv s ct fs K
   |e=>K e
 | .region id ops draw,_,lv,s0,ct0,fs,K=>
  let r5:=Fl cx cV d id (JQ cx cV d id s0) ct0
  let s:=r5.1
  let ct:=r5.2
  match cx.tN cV 1 id with
  |none=>vx cx dL cV id d ops draw (RV cV id ops draw (K .normal)) ops.toList 0 [] lv s ct fs
  |some js=>
   let h:=Et d s ct js
   (K .normal lv h.st h.ct fs).bind λk=>
    (vx cx dL cV id d ops draw (RV cV id ops draw (RU d h lv (cV*100000000+200000+id))) ops.toList 0 [] (lv+1) s ct fs).bind λb=>some (.join k b)
 | .cond c x y,_,lv,s,ct,fs,K=>
  let key:=match c with| .tmp t=>t|_=>0
  match cx.tN cV 2 key with
  |none=>Fk (cV*100000000+5000000+key) (cz d s.get c) (λfs=>comp cx dL cV d x 0 lv s ct fs K) (λfs=>comp cx dL cV d y 0 lv s ct fs K) s fs
  |some js=>
   let h:=Et d s ct js
   (K .normal lv h.st h.ct fs).bind λk=>
    (Fk (cV*100000000+5000000+key) (cz d s.get c) (λfs=>comp cx dL cV d x 0 (lv+1) s ct fs (Cp d h lv (cV*100000000+300000+key) K))
     (λfs=>comp cx dL cV d y 0 (lv+1) s ct fs (Cp d h lv (cV*100000000+300000+key) K)) s fs).bind λb=>some (.join k b)
 | .block id body,_,lv,s,ct,fs,K=>
  match cx.tN cV 3 id with
  |none=>comp cx dL cV d body id lv s ct fs (Fj id K)
  |some js=>
   let h:=Et d s ct js
   (K .normal lv h.st h.ct fs).bind λk=>
    (comp cx dL cV d body id (lv+1) s ct fs (Fj id (Cp d h lv (cV*100000000+400000+id) K))).bind λb=>some (.join k b)
 | .loop body,xw,lv,s,ct,fs,K=>
  match cx.tN cV 0 xw with
  |none=>some (.tK (cV*100000000+500000+xw) [s])
  |some js=>
   let h:=Et d s ct js
   match gP d h s with
   |none=>some (.tK (cV*100000000+600000+xw) [h.st,s])
   |some xs=>(comp cx dL cV d body 0 (lv+1) h.st h.ct fs (Cp d h lv (cV*100000000+700000+xw) K)).bind λb=>some (.loop xs b)
 | .exit id,_,lv,s,ct,fs,K=>K (.exit id) lv s ct fs
 | .ret,_,lv,s,ct,fs,K=>K .ret lv s ct fs
 |_,_,_,_,_,_,_=>some (.tK (cV*100000000+6000000) [])
def results(cx:Cx)(d:Nat)(s:St):List ResultVar->Option (List SV)
 | []=>some []
 | .tmp t::rs=>(results cx d s rs).bind λvs=>some (s.get (.t d t)::vs)
 | .cell a t::rs=>(cx.ty t).bind λti=>
  match s.get (.t d a)with
  | .pt bx off=>match s.get (.x bx)with
   | .v _ cs=>bif Nat.ble (off+ti.sz) cs.length then(results cx d s rs).bind λvs=>some (.v ti.ag ((cs.drop off).take ti.sz)::vs)else none
   |_=>none
  |_=>none
def xy(d:Nat)(s:St):Nat->List SV->St
 |_,[]=>s
 |i,v::vs=>xy d (s.set (.t d i) v) (i+1) vs
def Fm(cx:Cx):Nat->qQ
 |0=>λ_ _ _ _ _ _ _ _=>none
 |n+1=>λd g vs lv s ct fs k=>
  (cx.fn g).bind λfn=>fn.body.bind λc=>
   bif Nat.ble vs.length fn.ntmps&&yL fn.ntmps c then
    comp cx (Fm cx n) g d c 0 lv (xy d (tQ d s) 0 vs) ct fs λe lv s ct fs=>
     match e with
     | .exit _=>none
     |_=>(results cx d s fn.results.toList).bind λrs=>k rs lv (tQ d s) ct fs
   else none
def Fo:List Ce->List Ck->List (Nat×Bool)
 | .o id _::cs,.p::ks=>(id,true)::Fo cs ks
 | .o id _::cs,.o false::ks=>(id,false)::Fo cs ks
 |_::cs,_::ks=>Fo cs ks
 |_,_=>[]
def Fp:List SV->List (Bool×List Ck)->List (Nat×Bool)
 |v::vs,r::rs=>Fo (qR v) r.2++Fp vs rs
 |_,_=>[]
def Cq(s:St):Nat->List PS->List (Nat×Bool)
 |_,[]=>[]
 |i,.v _ _::ps=>Cq s (i+1) ps
 |i,.x _::ps=>(xA (qR (s.get (.x i)))).map (λid=>(id,true))++Cq s (i+1) ps
where
 xA:List Ce->List Nat
  | []=>[]
  | .o id _::cs=>id::xA cs
  |_::cs=>xA cs
def Wk.plain(k:Wk):Ce->Option Lf
 | .p x=>some x
 | .n=>some .e
 | .o id []=>match k.get (.o id)with
  | .fz _ x=>some x
  |_=>none
 |_=>none
def Wk.rJ(k:Wk):List Ce->Option (List Lf)
 | []=>some []
 |c::cs=>(k.plain c).bind λx=>(Wk.rJ k cs).bind λxs=>some (x::xs)
def nq(k:Wk):List Ce->List Ck->Option (Wk×List Lf×List Nat)
 | [],[]=>some (k,[],[])
 | .o id []::cs,.o dp::ks=>
  match k.get (.o id)with
  | .ob wL x=>bif wL==dp&& !Nat.beq (id%4) 2 then(nq k cs ks).bind λ(k,xs,ids)=>some (k,x::xs,id::ids)else none
  |_=>none
 | .n::cs,.o _::ks=>(nq k cs ks).bind λ(k,xs,ids)=>some (k,.e::xs,ids)
 | .p x::cs,.s::ks=>
  (nq k cs ks).bind λ(k,xs,ids)=>
   let(k,y):=k.em .uQ [x]
   some (k,y::xs,ids)
 |c::cs,.p::ks=>(k.plain c).bind λx=>(nq k cs ks).bind λ(k,xs,ids)=>some (k,x::xs,ids)
 |_,_=>none
def mX(k:Wk):List SV->List (Bool×List Ck)->Option (Wk×List Lf×List Nat)
 | [],[]=>some (k,[],[])
 | .v ag cs::vs,(yK,ks)::rs=>bif ag==yK then
   (mX k vs rs).bind λ(k,ys,jds)=>(nq k cs ks).bind λ(k,xs,ids)=>some (k,xs++ys,ids++jds)
  else none
 |_,_=>none
def zM(k:Wk):Nat->List PS->Option (List Lf)
 |_,[]=>some []
 |i,.v _ _::ps=>zM k (i+1) ps
 |i,.x n::ps=>
  match k.get (.x i)with
  | .v _ cs=>bif Nat.beq cs.length n then(k.rJ cs).bind λxs=>(zM k (i+1) ps).bind λys=>some (xs++ys)else none
  |_=>none
def wN:Nat->Nat->List PS->Nat×St
 |a,_,[]=>(a,[])
 |a,i,.v ag n::ps=>
  let r:=wN (a+n) (i+1) ps
  (r.1,(.t 0 i,.v ag (Es a n))::r.2)
 |a,i,.x n::ps=>
  let r:=wN (a+n) (i+1) ps
  (r.1,(.t 0 i,.pt i 0)::(.x i,.v true (Es a n))::r.2)
def JR(cx:Cx)(fn:Func)(sg:pG):KP:=λlv s ct fs=>
 (results cx 0 s fn.results.toList).bind λvs=>
  let s1:=vy s (Fp vs sg.rs++Cq s 0 sg.ps)
  match mX ⟨s1,[],ct,[]⟩ vs sg.rs with
  |none=>some (.tK 90 [s1,vs.map λv=>(.x 0,v)])
  |some (k,xs,ids)=>
   match zM k 0 sg.ps with
   |none=>some (.tK 91 [s1])
   |some ys=>
    bif xk ids then
     bif Nat.beq k.ct.a (ct.a+sy k.is)&&tP k.ct.a k.is then some (wrap k.is (.ret (xs++ys)))else none
    else some (.tK 92 [])
def Fq(sg:pG):Bool:=!(rF sg&&sg.rs.any λr=>r.2.any λ | .o true=>true|_=>false)
def Ft(cx:Cx)(n cV:Nat)(fn:Func)(sg:pG):Option PL:=
 fn.body.bind λc=>
  let r:=wN 0 0 sg.ps
  bif yL fn.ntmps c&&Nat.ble sg.ps.length fn.ntmps&&Fq sg then
   comp cx (Fm cx n) cV 0 c 0 0 r.2 ⟨r.1,sg.ps.length+1⟩ [] λe=>
    match e with
    | .exit _=>λ_ _ _ _=>none
    |_=>JR cx fn sg
  else none
theorem Lf.beq_eq{x y:Lf}(h:x.beq y=true):x=y:=by
 cases x with
 |k v=>
  cases y with
  |k u=>
   cases v<;>cases u<;>simp_all[Lf.beq]
   exact ByteArray.ext h
  |a m=>simp[Lf.beq]at h
  |e=>simp[Lf.beq]at h
 |a n=>
  cases y with
  |a m=>simp[Lf.beq]at h;rw[h]
  |k u=>simp[Lf.beq]at h
  |e=>simp[Lf.beq]at h
 |e=>cases y<;>simp[Lf.beq]at h;rfl
inductive Lb where
 |f
 |x (b:Nat)
 |o (id:Nat) (p:List (Nat×Nat))
def Lb.id:Lb->Nat
 | .f=>0
 | .x b=>b
 | .o i _=>i
structure Gh where
 ω:Nat->Option Lb
 β:Nat->Nat
 H:Nat->List (Nat×Nat)->Value
 hs:∀i p,∃a n c,H i p=.slice a n c
def qt:Lb->Bool
 | .o i p=>Nat.beq (i%4) 2||(Nat.beq (i%2) 0&& !p.isEmpty)
 |_=>false
def qf(ω:Nat->Option Lb):Nat->Option Lb:=λb=>match ω b with
 |some l=>bif qt l then none else some l
 |none=>none
theorem Cr{ω:Nat->Option Lb}{b:Nat}(h:ω b=none):qf ω b=none:=by simp[qf,h]
theorem Cs{ω:Nat->Option Lb}{b:Nat}{l:Lb}(h:ω b=some l)(hq:qt l=false):qf ω b=some l:=by simp[qf,h,hq]
theorem RW{ω:Nat->Option Lb}{b:Nat}{l:Lb}(h:ω b=some l)(hq:qt l=true):qf ω b=none:=by simp[qf,h,hq]
theorem RX{ω:Nat->Option Lb}{b:Nat}(h:qf ω b=none):ω b=none∨∃l,ω b=some l∧qt l=true:=by
 unfold qf at h
 split at h
 ·rename_i l hl
  cases hq:qt l with
  |true=>exact .inr ⟨l,hl,hq⟩
  |false=>simp[hq]at h
 ·rename_i hl;exact .inl hl
theorem xB{ω:Nat->Option Lb}{b:Nat}{l:Lb}(h:ω b=some l)(hq:qt l=false):qf ω b≠none:=by rw[Cs h hq];simp
theorem vA{ω xC:Nat->Option Lb}{b:Nat}(h:qf ω b=none)(hn:ω b=none->xC b=none)(hl:∀l,ω b=some l->qt l=true->xC b=none∨∃l',xC b=some l'∧qt l'=true):qf xC b=none:=by
 rcases RX h with h0|⟨l,h1,h2⟩
 ·exact Cr (hn h0)
 ·rcases hl l h1 h2 with h3|⟨l',h3,h4⟩
  ·exact Cr h3
  ·exact RW h3 h4
def Gh.q(G:Gh):Nat->Option Lb:=qf G.ω
theorem JS{G:Gh}{b:Nat}{l:Lb}(h:G.q b=some l):G.ω b=some l:=by
 unfold Gh.q qf at h
 split at h
 ·rename_i l' hl
  cases hq:qt l' with
  |true=>simp[hq]at h
  |false=>simp[hq]at h;rw[hl,h]
 ·cases h
theorem Gh.xD{G G':Gh}{b:Nat}(h:G'.ω b=G.ω b):G'.q b=G.q b:=by simp only[Gh.q,qf,h]
theorem JT{ρ:List T}{id:Nat}{p:List (Nat×Nat)}(h:p=[]∨id%2=1)(h2:id%4≠2):qt (.o id p)=false:=by
 have e1:Nat.beq (id%4) 2=false:=by
  cases hb:Nat.beq (id%4) 2 with
  |false=>rfl
  |true=>exact absurd (dU hb) h2
 rcases h with rfl|h
 ·simp[qt,e1]
 ·have e2:Nat.beq (id%2) 0=false:=by rw[h];rfl
  simp[qt,e1,e2]
theorem tR{id:Nat}(h2:id%4≠2):qt (.o id [])=false:=JT (ρ:=[]) (.inl rfl) h2
theorem xE{i:Nat}{p:List (Nat×Nat)}(hi:i%2=0)(hp:p≠[]):qt (.o i p)=true:=by
 cases p with
 |nil=>exact absurd rfl hp
 |cons x p=>simp[qt,hi]
theorem JU{i:Nat}{p:List (Nat×Nat)}(hi:i%4=2):qt (.o i p)=true:=by simp[qt,hi]
def dP(xs:List (List T))(i j:Nat):Option T:=xs[i]?.bind (·[j]?)
inductive eP (ω:Nat->Option Lb) (w:World):T->Value->Prop
 |c {v:Value} (h:lr v=true):eP ω w (.c v) v
 |nil {a:Option Addr} {cap:Nat}:eP ω w (.l []) (.slice a 0 cap)
 |l {xs:List (List T)} {b off wd cap:Nat} {cv:Nat->Nat->Value} (hw:∀r∈xs,r.length=wd) (hc:xs.length<=cap)
   (hb:ω b=none) (bE:b<w.heap.size)
   (h1:∀i j t,dP xs i j=some t->w.cell? ⟨b,off+(i*wd+j),none⟩=some (cv i j))
   (h2:∀i j t,dP xs i j=some t->eP ω w t (cv i j)):eP ω w (.l xs) (.slice (some ⟨b,off,none⟩) xs.length cap)
inductive fg (G:Gh) (w:World) (id:Nat):Bool->List (Nat×Nat)->T->Prop
 |nil {dp:Bool} {p:List (Nat×Nat)} (hH:G.H id p=.slice none 0 0):fg G w id dp p (.l [])
 |l {dp:Bool} {p:List (Nat×Nat)} {xs:List (List T)} {b wd cap:Nat} {arr:Array Value} {elem:TypeId} {cv:Nat->Nat->Value}
   (hH:G.H id p=.slice (some ⟨b,0,none⟩) xs.length cap) (hc:xs.length<=cap∧(xs=[]->cap=0)) (iA:G.ω b=some (.o id p))
   (hh:w.heap[b]?=some (.cells arr elem (0,0))) (hs:arr.size=cap*wd) (hw:∀r∈xs,r.length=wd)
   (h1:∀i j t,dP xs i j=some t->arr[i*wd+j]?=some (cv i j))
   (hv:∀i j v,dP xs i j=some (.c v)->cv i j=v∧lr v=true)
   (hp:∀i j ys,dP xs i j=some (.l ys)->dp=false->eP G.q w (.l ys) (cv i j))
   (hq:∀i j ys,dP xs i j=some (.l ys)->dp=true->cv i j=G.H id (p++[(i,j)]))
   (ho:∀i j ys,dP xs i j=some (.l ys)->dp=true->fg G w id true (p++[(i,j)]) (.l ys)):fg G w id dp p (.l xs)
def Lf.fN(ρ:List T):Lf->Option T
 | .k v=>bif lr v then some (.c v)else none
 | .a n=>ρ[n]?
 | .e=>some (.l [])
theorem Lf.bU{ρ:List T}{x:Lf}{t:T}(h:x.fN ρ=some t):x.ev ρ=t:=by
 cases x with
 |k v=>simp only[Lf.fN]at h;cases hs:lr v<;>simp[hs]at h;simp[Lf.ev,h]
 |a n=>simp only[Lf.fN]at h;simp[Lf.ev,List.getD,h]
 |e=>simpa[Lf.fN,Lf.ev]using h
def mY(ρ:List T)(x:Lf):Option Nat:=
 match x.fN ρ with
 |some (.c (.int _ n))=>if 0<=n then some n.toNat else none
 |_=>none
def gQ(ρ:List T):oJ->Option (List (Nat×Nat))
 | []=>some []
 |(x,_,j)::q=>(mY ρ x).bind λi=>(gQ ρ q).bind λp=>some ((i,j)::p)
def lU(ρ:List T)(id:Nat)(q:oJ):Option (List (Nat×Nat)):=
 match q with
 | []=>some []
 |x::q=>if id%2=1 then gQ ρ (x::q)else none
theorem nz{ρ:List T}{id:Nat}:lU ρ id []=some []:=rfl
theorem vB{ρ:List T}{id:Nat}{q:oJ}{p:List (Nat×Nat)}(h:lU ρ id q=some p):gQ ρ q=some p:=by
 cases q with
 |nil=>exact h
 |cons x q=>
  simp only[lU]at h
  split at h
  ·exact h
  ·cases h
theorem Fu{ρ:List T}{id:Nat}{q:oJ}{p:List (Nat×Nat)}(h:lU ρ id q=some p):p=[]∨id%2=1:=by
 cases q with
 |nil=>simp only[lU,bF]at h;exact .inl h.symm
 |cons x q=>
  simp only[lU]at h
  split at h
  ·exact .inr (by assumption)
  ·cases h
theorem aa0{ρ:List T}{id:Nat}{q:oJ}{p:List (Nat×Nat)}(h:gQ ρ q=some p)(hi:id%2=1):lU ρ id q=some p:=by
 cases q with
 |nil=>exact h
 |cons x q=>simp only[lU,if_pos hi];exact h
def gf(G:Gh)(w:World)(ρ:List T):Ce->Value->Prop
 | .p x,c=>∃t,x.fN ρ=some t∧eP G.q w t c
 | .o id q,c=>∃p,lU ρ id q=some p∧c=G.H id p
 | .n,c=>c=.slice none 0 0
 | .d,c=>c.oneCell'=true
def bn(G:Gh)(w:World)(ρ:List T):List Ce->List Value->Prop
 | [],[]=>True
 |c::cs,v::vs=>gf G w ρ c v∧bn G w ρ cs vs
 |_,_=>False
def fh(G:Gh)(w:World)(ρ:List T)(ag:Bool)(cs:List Ce)(c:Value):Prop:=
 match ag with
 |true=>∃vs:List Value,c=.agg vs.toArray∧bn G w ρ cs vs
 |false=>∃e,cs=[e]∧gf G w ρ e c∧∀a,c≠.agg a
def gD(G:Gh)(w:World)(ρ:List T):List (Bool×List Ce)->List Value->Prop
 | [],[]=>True
 |c::cs,v::vs=>fh G w ρ c.1 c.2 v∧gD G w ρ cs vs
 |_,_=>False
def cL(G:Gh)(w:World)(ρ:List T):SV->Value->Prop
 | .un,_=>True
 | .v ag cs,c=>fh G w ρ ag cs c
 | .pt b off,c=>c=.pointer (some ⟨G.β b,off,none⟩)
 | .ep id q ix wd off,c=>∃p b n cap i,lU ρ id q=some p∧G.H id p=.slice (some ⟨b,0,none⟩) n cap∧mY ρ ix=some i∧i<n∧
   c=.pointer (some ⟨b,i*wd+off,none⟩)
 | .fp s ix wd off,c=>∃xs i r b base,s.fN ρ=some (.l xs)∧mY ρ ix=some i∧xs[i]?=some r∧c=.pointer (some ⟨b,base+off,none⟩)∧
   (r.length=wd->G.q b=none∧b<w.heap.size∧∀j t,r[j]?=some t->∃u,w.cell? ⟨b,base+j,none⟩=some u∧eP G.q w t u)
 | .tp vs,c=>∃us:List Value,c=.tuple us.toArray∧gD G w ρ vs us
 | .cl f bs,c=>c=.func (.func f) #[] (bs.map λb=>Value.pointer (some ⟨G.β b,0,none⟩)).toArray
 | .ob _ _,_=>False
 | .fz _ _,_=>False
 | .tk _ _,_=>False
 | .fl _,_=>False
 | .fr _,_=>False
def fY(G:Gh)(w:World)(ρ:List T)(b:Nat):SV->Prop
 | .v _ cs=>G.ω (G.β b)=some (.x b)∧∃arr elem,w.heap[G.β b]?=some (.cells arr elem (0,0))∧bn G w ρ cs arr.toList
 | .un=>True
 |_=>False
def qA(w:World)(H:List (Nat×Nat)->Value)(n:Nat)(v:Value)(zs:List (List T)):Prop:=
 ∀b off k c,v=.slice (some ⟨b,off,none⟩) k c->∃wd,(∀r∈zs,r.length=wd)∧∀i j ys,dP zs i j=some (.l ys)->w.cell? ⟨b,off+(i*wd+j),none⟩=some (H [(n+i,j)])
def yM(G:Gh)(w:World)(ρ:List T)(v:Value)(t:T):Pv->Prop
 | .z=>True
 | .w tk x lo=>tk%4=2∧∃F n zs,x.fN ρ=some (.l F)∧mY ρ lo=some n∧t=.l zs∧(∀i r,zs[i]?=some r->F[n+i]?=some r)∧
   qA w (G.H tk) n v zs∧(n=0->∀b off k c,v=.slice (some ⟨b,off,none⟩) k c->off=0)
def cM(G:Gh)(w:World)(ρ:List T)(id:Nat):SV->Prop
 | .ob dp x=>∃t,x.fN ρ=some t∧fg G w id dp [] t
 | .fz pv x=>∃t,x.fN ρ=some t∧eP G.q w t (G.H id [])∧yM G w ρ (G.H id []) t pv
 | .tk x m=>id%4=2∧∃F u,x.fN ρ=some (.l F)∧m.fN ρ=some (.l u)∧u.length=F.length∧
   ∀i r,u[i]?=some r->r≠[]->F[i]?=some r∧∀j ys,r[j]?=some (.l ys)->fg G w id true [(i,j)] (.l ys)
 | .fl x=>id%4=2∧∃t,x.fN ρ=some t∧fg G w id true [] t
 | .fr x=>id%4=0∧∃ys,x.fN ρ=some (.l ys)∧eP G.q w (.l ys) (G.H id [])∧qA w (G.H id) 0 (G.H id []) ys∧
   ∀i j zs,dP ys i j=some (.l zs)->fg G w id true [(i,j)] (.l zs)
 | .un=>True
 |_=>False
structure dA (I:Lb->Prop) (N:Nat->Prop) (G:Gh) (w:World) (G':Gh) (w':World):Prop where
 size:w.heap.size<=w'.heap.size
 free:∀b,b<w.heap.size->G.q b=none->G'.q b=none∧w'.heap[b]?=w.heap[b]?
 ZU:∀b,b<w.heap.size->G.ω b=none->G'.ω b=none
 own:∀b l,G.ω b=some l->¬I l->G'.ω b=some l∧w'.heap[b]?=w.heap[b]?
 nm:∀i,¬N i->G'.β i=G.β i∧∀p,(p=[]∨i%4≠0∨∀r,¬I (.o i r))->G'.H i p=G.H i p
theorem JV{w w':World}{b:Nat}(h:w'.heap[b]?=w.heap[b]?)(off:Nat):w'.cell? ⟨b,off,none⟩=w.cell? ⟨b,off,none⟩:=by
 simp only[World.cell?,h]
theorem eP.bp{ω xC:Nat->Option Lb}{w w':World}(hs:w.heap.size<=w'.heap.size)
  (hf:∀b,b<w.heap.size->ω b=none->xC b=none∧w'.heap[b]?=w.heap[b]?){t:T}{c:Value}(h:eP ω w t c):eP xC w' t c:=by
 induction h with
 |c h=>exact .c h
 |nil=>exact .nil
 |l hw hc hb bE h1 h2 ih=>
  obtain⟨kl,hh⟩:=hf _ bE hb
  exact .l hw hc kl (Nat.lt_of_lt_of_le bE hs) (λi j t ht=>by rw[JV hh];exact h1 i j t ht) ih
theorem fg.bp{I:Lb->Prop}{N:Nat->Prop}{G G':Gh}{w w':World}(k:dA I N G w G' w'){id:Nat}(hi:∀p,¬I (.o id p))(hn:¬N id){dp:Bool}{p:List (Nat×Nat)}{t:T}
  (h:fg G w id dp p t):fg G' w' id dp p t:=by
 have hH:G'.H id=G.H id:=funext λp=>(k.nm id hn).2 p (.inr (.inr hi))
 induction h with
 |nil h=>exact .nil (by rw[hH];exact h)
 |l h1 h2 h3 h4 h5 h6 h7 h8 h9 pn _ ih=>
  obtain⟨ho,hh⟩:=k.own _ _ h3 (hi _)
  exact .l (by rw[hH];exact h1) h2 ho (hh.trans h4) h5 h6 h7 h8 (λi j ys hy hd=>(h9 i j ys hy hd).bp k.size k.free)
   (λi j ys hy hd=>by rw[hH];exact pn i j ys hy hd) ih
def dN:List Ce->List Nat
 | []=>[]
 | .o id _::cs=>id::dN cs
 |_::cs=>dN cs
def tS:List (Bool×List Ce)->List Nat
 | []=>[]
 |v::vs=>dN v.2++tS vs
def dt:SV->List Nat
 | .v _ cs=>dN cs
 | .pt b _=>[b]
 | .ep id _ _ _ _=>[id]
 | .cl _ bs=>bs
 | .tp vs=>tS vs
 | .fz (.w tk _ _) _=>[tk]
 |_=>[]
theorem gf.bp{I:Lb->Prop}{N:Nat->Prop}{G G':Gh}{w w':World}(k:dA I N G w G' w'){ρ:List T}{e:Ce}{c:Value}(hn:∀i∈dN [e],¬N i)
  (h:gf G w ρ e c):gf G' w' ρ e c:=by
 cases e with
 |p x=>obtain⟨t,h1,h2⟩:=h;exact⟨t,h1,h2.bp k.size k.free⟩
 |o id q=>obtain⟨p,h1,h2⟩:=h;exact⟨p,h1,by rw[(k.nm id (hn id (by simp[dN]))).2 p ((Fu h1).imp_right λh=>.inl (by omega))];exact h2⟩
 |n=>exact h
 |d=>exact h
theorem zN(e:Ce)(cs:List Ce):dN (e::cs)=dN [e]++dN cs:=by
 cases e<;>simp[dN]
theorem bn.bp{I:Lb->Prop}{N:Nat->Prop}{G G':Gh}{w w':World}(k:dA I N G w G' w'){ρ:List T}:∀{cs:List Ce} {vs:List Value},(∀i∈dN cs,¬N i)->
  bn G w ρ cs vs->bn G' w' ρ cs vs
 | [],[],_,_=>trivial
 | [],_::_,_,h=>h.elim
 |_::_,[],_,h=>h.elim
 |e::cs,v::vs,hn,h=>by
  rw[zN]at hn
  exact⟨h.1.bp k (λi hi=>hn i (List.mem_append_left _ hi)),bn.bp k (λi hi=>hn i (List.mem_append_right _ hi)) h.2⟩
theorem fh.bp{I:Lb->Prop}{N:Nat->Prop}{G G':Gh}{w w':World}(k:dA I N G w G' w'){ρ:List T}{ag:Bool}{cs:List Ce}{c:Value}(hn:∀i∈dN cs,¬N i)
  (h:fh G w ρ ag cs c):fh G' w' ρ ag cs c:=by
 cases ag with
 |true=>obtain⟨vs,h1,h2⟩:=h;exact⟨vs,h1,h2.bp k hn⟩
 |false=>obtain⟨e,rfl,h2,h3⟩:=h;exact⟨e,rfl,h2.bp k hn,h3⟩
theorem gD.bp{I:Lb->Prop}{N:Nat->Prop}{G G':Gh}{w w':World}(k:dA I N G w G' w'){ρ:List T}:∀{cs:List (Bool×List Ce)} {vs:List Value},(∀i∈tS cs,¬N i)->
  gD G w ρ cs vs->gD G' w' ρ cs vs
 | [],[],_,_=>trivial
 | [],_::_,_,h=>h.elim
 |_::_,[],_,h=>h.elim
 |e::cs,v::vs,hn,h=>⟨h.1.bp k (λi hi=>hn i (by simp[tS,hi])),gD.bp k (λi hi=>hn i (by simp[tS,hi])) h.2⟩
theorem cL.bp{I:Lb->Prop}{N:Nat->Prop}{G G':Gh}{w w':World}(k:dA I N G w G' w'){ρ:List T}{v:SV}{c:Value}(hn:∀i∈dt v,¬N i)
  (h:cL G w ρ v c):cL G' w' ρ v c:=by
 cases v with
 |un=>trivial
 |v ag cs=>exact fh.bp k hn h
 |pt b off=>exact(by rw[cL,(k.nm b (hn b (by simp[dt]))).1];exact h)
 |ep id q ix wd off=>
  obtain⟨p,b,n,cap,i,h1,h2,h3⟩:=h
  exact⟨p,b,n,cap,i,h1,by rw[(k.nm id (hn id (by simp[dt]))).2 p ((Fu h1).imp_right λh=>.inl (by omega))];exact h2,h3⟩
 |fp s ix wd off=>
  obtain⟨xs,i,r,b,base,h1,h2,h3,h4,h5⟩:=h
  refine⟨xs,i,r,b,base,h1,h2,h3,h4,λhr=>?_⟩
  obtain⟨h6,h7,h8⟩:=h5 hr
  obtain⟨h9,pn⟩:=k.free _ h7 h6
  refine⟨h9,Nat.lt_of_lt_of_le h7 k.size,λj t ht=>?_⟩
  obtain⟨u,hu,hd⟩:=h8 j t ht
  exact⟨u,by rw[JV pn];exact hu,hd.bp k.size k.free⟩
 |tp vs=>obtain⟨us,h1,h2⟩:=h;exact⟨us,h1,h2.bp k hn⟩
 |cl f bs=>
  simp only[cL]at h⊢
  rw[h]
  congr 2
  exact List.map_congr_left λb hb=>by rw[(k.nm b (hn b (by simpa[dt]using hb))).1]
 |ob dp x=>exact h
 |fz pv x=>exact h
 |tk x m=>exact h
 |fl x=>exact h
 |fr x=>exact h
theorem fY.bp{I:Lb->Prop}{N:Nat->Prop}{G G':Gh}{w w':World}(k:dA I N G w G' w'){ρ:List T}{b:Nat}{v:SV}(hi:¬I (.x b))(hb:¬N b)(hn:∀i∈dt v,¬N i)
  (h:fY G w ρ b v):fY G' w' ρ b v:=by
 cases v with
 |v ag cs=>
  obtain⟨h1,arr,elem,h2,h3⟩:=h
  obtain⟨h4,h5⟩:=k.own _ _ h1 hi
  have Fv:=(k.nm b hb).1
  exact⟨by rw[Fv];exact h4,arr,elem,by rw[Fv];exact h5.trans h2,h3.bp k hn⟩
 |un=>trivial
 |_=>exact h
theorem qA.bp{ω:Nat->Option Lb}{w w':World}{H H':List (Nat×Nat)->Value}{n:Nat}{v:Value}{zs:List (List T)}(h:qA w H n v zs)(hd:eP ω w (.l zs) v)
  (hf:∀b,b<w.heap.size->ω b=none->w'.heap[b]?=w.heap[b]?)(hH:∀p,p≠[]->H' p=H p):qA w' H' n v zs:=by
 intro b off k c hv
 obtain⟨wd,h1,h2⟩:=h b off k c hv
 refine⟨wd,h1,λi j ys bN=>?_⟩
 rw[hH _ (by simp),<-h2 i j ys bN]
 subst hv
 generalize hv:Value.slice (some (⟨b,off,none⟩:Addr)) k c=v at hd
 cases hd with
 |nil=>simp[dP]at bN
 |l g1 g2 g3 g4 g5 g6=>cases hv;exact JV (hf _ g4 g3) _
theorem yM.bp{I:Lb->Prop}{N:Nat->Prop}{G G':Gh}{w w':World}(k:dA I N G w G' w'){ρ:List T}{pv:Pv}{v:Value}{t:T}(hd:eP G.q w t v)(hn:∀x i,i∈dt (.fz pv x)->¬N i)
  (h:yM G w ρ v t pv):yM G' w' ρ v t pv:=by
 cases pv with
 |z=>trivial
 |w tk x lo=>
  obtain⟨h0,F,n,zs,h1,h2,rfl,h3,h4,h5⟩:=h
  refine⟨h0,F,n,zs,h1,h2,rfl,h3,h4.bp hd (λb hb h=>(k.free b hb h).2) λp _=>?_,h5⟩
  exact(k.nm tk (hn .e tk (by simp[dt]))).2 p (.inr (.inl (by omega)))
theorem cM.bp{I:Lb->Prop}{N:Nat->Prop}{G G':Gh}{w w':World}(k:dA I N G w G' w'){ρ:List T}{id:Nat}{v:SV}(hi:∀p,¬I (.o id p))(hb:¬N id)(hn:∀i∈dt v,¬N i)
  (h:cM G w ρ id v):cM G' w' ρ id v:=by
 cases v with
 |ob dp x=>obtain⟨t,h1,h2⟩:=h;exact⟨t,h1,h2.bp k hi hb⟩
 |fz pv x=>
  obtain⟨t,h1,h2,h3⟩:=h
  have e:=(k.nm id hb).2 [] (.inl rfl)
  exact⟨t,h1,by rw[e];exact h2.bp k.size k.free,by rw[e];exact h3.bp k h2 (λ_ i hi=>hn i (by cases pv<;>exact hi))⟩
 |tk x m=>
  obtain⟨h0,F,u,h1,h2,h3,h4⟩:=h
  exact⟨h0,F,u,h1,h2,h3,λi r hr dI=>⟨(h4 i r hr dI).1,λj ys hy=>((h4 i r hr dI).2 j ys hy).bp k hi hb⟩⟩
 |fl x=>obtain⟨h0,t,h1,h2⟩:=h;exact⟨h0,t,h1,h2.bp k hi hb⟩
 |fr x=>
  obtain⟨h0,ys,h1,h2,h3,h4⟩:=h
  have e:=λp=>(k.nm id hb).2 p (.inr (.inr hi))
  refine⟨h0,ys,h1,by rw[e];exact h2.bp k.size k.free,by rw[e];exact h3.bp h2 (λb hb h=>(k.free b hb h).2) λp _=>e p,λi j zs hz=>(h4 i j zs hz).bp k hi hb⟩
 |un=>trivial
 |_=>exact h
theorem dA.refl(G:Gh)(w:World):dA (λ_=>False) (λ_=>False) G w G w:=
 ⟨Nat.le_refl _,λ_ _ h=>⟨h,rfl⟩,λ_ _ h=>h,λ_ _ h _=>⟨h,rfl⟩,λ_ _=>⟨rfl,λ_ _=>rfl⟩⟩
theorem dA.mono{I I':Lb->Prop}{N N':Nat->Prop}{G G':Gh}{w w':World}(k:dA I N G w G' w')(hI:∀l,I l->I' l)(hN:∀i,N i->N' i):dA I' N' G w G' w':=
 ⟨k.size,k.free,k.ZU,λb l hb hl=>k.own b l hb λh=>hl (hI l h),λi hi=>⟨(k.nm i λh=>hi (hN i h)).1,λp hp=>(k.nm i λh=>hi (hN i h)).2 p (hp.imp_right λh=>h.imp_right λh r hr=>h r (hI _ hr))⟩⟩
theorem dA.trans{I:Lb->Prop}{N:Nat->Prop}{G G' G'':Gh}{w w' w'':World}(k:dA I N G w G' w')(k':dA I N G' w' G'' w''):dA I N G w G'' w'':=by
 refine⟨Nat.le_trans k.size k'.size,λb hb h0=>?_,λb hb h0=>k'.ZU b (Nat.lt_of_lt_of_le hb k.size) (k.ZU b hb h0),λb l hb hl=>?_,λi hi=>?_⟩
 ·obtain⟨h1,h2⟩:=k.free b hb h0
  obtain⟨h3,h4⟩:=k'.free b (Nat.lt_of_lt_of_le hb k.size) h1
  exact⟨h3,h4.trans h2⟩
 ·obtain⟨h1,h2⟩:=k.own b l hb hl
  obtain⟨h3,h4⟩:=k'.own b l h1 hl
  exact⟨h3,h4.trans h2⟩
 ·exact⟨(k'.nm i hi).1.trans (k.nm i hi).1,λp hp=>((k'.nm i hi).2 p hp).trans ((k.nm i hi).2 p hp)⟩
theorem St.vC(s:St)(r:bD):s.get r=(s.look r).getD .un:=by
 induction s with
 |nil=>rfl
 |cons x s ih=>
  obtain⟨r',v⟩:=x
  cases h:r'.beq r<;>simp[St.get,St.look,h,ih]
theorem St.a_(s W:St)(r:bD):(s.fw W).get r=(W.look r).getD (s.get r):=by
 induction W with
 |nil=>rfl
 |cons x W ih=>
  obtain⟨r',v⟩:=x
  cases h:r'.beq r with
  |true=>
   have:=bD.beq_iff.1 h
   subst this
   simp[St.fw,St.cq,St.look,h]
  |false=>
   have dI:r'≠r:=λe=>by simp[bD.beq_iff.2 e]at h
   simp[St.fw,St.ei _ _ dI,St.look,h,ih]
theorem St.bB(s:St)(r:bD)(v:SV):(s.set r v).look r=some v:=by
 induction s with
 |nil=>simp[St.set,St.look,(bD.beq_iff).2 rfl]
 |cons x s ih=>
  obtain⟨r',v'⟩:=x
  cases h:r'.beq r with
  |true=>simp[St.set,St.look,h,(bD.beq_iff).2 rfl]
  |false=>simp[St.set,St.look,h,ih]
theorem St.cG(s:St){r r':bD}(v:SV)(h:r≠r'):(s.set r v).look r'=s.look r':=by
 have hb:r.beq r'=false:=by
  cases hh:r.beq r' with
  |false=>rfl
  |true=>exact absurd (bD.beq_iff.1 hh) h
 induction s with
 |nil=>simp[St.set,St.look,hb]
 |cons x s ih=>
  obtain⟨r2,v2⟩:=x
  cases h2:r2.beq r with
  |true=>
   have:=bD.beq_iff.1 h2
   subst this
   simp[St.set,St.look,h2,hb]
  |false=>
   cases h3:r2.beq r' with
   |true=>simp[St.set,St.look,h2,h3]
   |false=>simp[St.set,St.look,h2,h3,ih]
theorem St.Cu(s:St)(R:List bD){r:bD}(h:r∈R):(s.only R).get r=s.get r:=by
 induction R with
 |nil=>cases h
 |cons x R ih=>
  simp only[St.only,St.get]
  cases hb:x.beq r with
  |true=>have:=bD.beq_iff.1 hb;subst this;rfl
  |false=>
   refine ih ?_
   cases h with
   |head=>simp[bD.beq_iff.2 rfl]at hb
   |tail _ h=>exact h
theorem St.tT(s:St)(R:List bD){r:bD}(h:r∉R):(s.only R).get r=.un:=by
 induction R with
 |nil=>rfl
 |cons x R ih=>
  simp only[St.only,St.get]
  have hb:x.beq r=false:=by
   cases hb:x.beq r with
   |false=>rfl
   |true=>exact absurd (bD.beq_iff.1 hb▸List.mem_cons_self) h
  rw[hb]
  exact ih λhm=>h (List.mem_cons_of_mem _ hm)
structure eT where
 w0:World
 po:Nat->Option Lb
 bt:Nat->Option Nat
def RY:List (Nat×List Value):=[]
def Fw(ω:Nat->Option Lb)(w:World):Prop:=∀x∈RY,x.1<w.heap.size∧ω x.1=none∧∃e z,w.heap[x.1]?=some (.cells x.2.toArray e z)
structure xF (B:eT) (G:Gh) (w:World):Prop where
 os:w.os=B.w0.os
 tape:w.tape=B.w0.tape
 output:w.output=B.w0.output
 size:B.w0.heap.size<=w.heap.size
 free:∀b,b<B.w0.heap.size->B.po b=none->G.ω b=none∧w.heap[b]?=B.w0.heap[b]?
 Eu:∀b,B.po b=some .f->G.ω b=some .f∧w.heap[b]?=B.w0.heap[b]?
 gl:Fw B.po B.w0
theorem xF.aa2{B:eT}{G:Gh}{w:World}(h:xF B G w):Fw G.ω w:=λx hx=>by
 obtain⟨h1,h2,e,z,h3⟩:=h.gl x hx
 obtain⟨h4,h5⟩:=h.free x.1 h1 h2
 exact⟨Nat.lt_of_lt_of_le h1 h.size,h4,e,z,h5.trans h3⟩
def qB(up:Nat->Nat->Value)(d:Nat)(a:Act)(e n:Nat):Value:=if e=d then a.tmps.getD n undef else up e n
structure Rel (M:Nat->Prop) (B:eT) (d:Nat) (up:Nat->Nat->Value) (s:St) (ρ:List T) (G:Gh) (a:Act) (w:World):Prop where
 tm:∀e n,e<=d->cL G w ρ (s.get (.t e n)) (qB up d a e n)
 bx:∀b,fY G w ρ b (s.get (.x b))
 ob:∀i,cM G w ρ i (s.get (.o i))
 fZ:∀r,∀i∈dt (s.get r),M i
 key:∀i,(s.get (.x i)≠.un∨s.get (.o i)≠.un)->M i
 iO:∀b l,G.ω b=some l->M l.id∧b<w.heap.size
 dn:a.defers=[]
 base:xF B G w
 bt:∀i b,B.bt i=some b->M i∧G.β i=b
theorem JW{up:Nat->Nat->Value}{d:Nat}{a:Act}{dst:Option Nat}{v:Value}{e n:Nat}(h:¬(e=d∧dst=some n)):
  qB up d (a.put dst v) e n=qB up d a e n:=by
 unfold qB
 split
 ·rename_i he
  cases dst with
  |none=>rfl
  |some m=>
   have dI:m≠n:=λhm=>h ⟨he,by rw[hm]⟩
   simp[Act.put,Array.getD_eq_getD_getElem?,Array.getElem?_setIfInBounds_ne dI]
 ·rfl
theorem RZ{up:Nat->Nat->Value}{d:Nat}{a:Act}{v:Value}{n:Nat}(h:n<a.tmps.size):qB up d (a.put (some n) v) d n=v:=by
 simp[qB,Act.put,Array.getD_eq_getD_getElem?,h]
theorem Rel.mono{M M':Nat->Prop}{B:eT}{d:Nat}{up:Nat->Nat->Value}{s:St}{ρ:List T}{G:Gh}{a:Act}{w:World}(h:Rel M B d up s ρ G a w)
  (hM:∀i,M i->M' i):Rel M' B d up s ρ G a w:=
 ⟨h.tm,h.bx,h.ob,λr i hi=>hM i (h.fZ r i hi),λi hi=>hM i (h.key i hi),λb l hl=>⟨hM _ (h.iO b l hl).1,(h.iO b l hl).2⟩,h.dn,h.base,λi b hb=>⟨hM i (h.bt i b hb).1,(h.bt i b hb).2⟩⟩
def qC(W:St):Lb->Prop
 | .f=>False
 | .x b=>W.look (.x b)≠none
 | .o i _=>W.look (.o i)≠none
theorem Rel.glue{M M':Nat->Prop}{B:eT}{d:Nat}{up:Nat->Nat->Value}{s s':St}{ρ:List T}{G:Gh}{a:Act}{w:World}(h:Rel M B d up s ρ G a w)
  {N:Nat->Prop}{G':Gh}{w':World}{W:St}(k:dA (qC W) N G w G' w'){dst:Option Nat}{v:Value}
  (hN:∀i,N i->¬M i)(hM:∀i,M i->M' i)
  (hd:∀n,dst=some n->W.look (.t d n)≠none)
  (hr:Rel M' B d up (s'.fw W) ρ G' (a.put dst v) w'):Rel M' B d up (s.fw W) ρ G' (a.put dst v) w':=by
 have hw:∀r u,W.look r=some u->(s'.fw W).get r=u:=λr u hu=>by rw[St.a_,hu];rfl
 refine⟨?_,?_,?_,?_,?_,hr.iO,hr.dn,hr.base,hr.bt⟩
 ·intro e n he
  rw[St.a_]
  cases hl:W.look (.t e n)with
  |some u=>have:=hr.tm e n he;rw[hw _ _ hl]at this;exact this
  |none=>
   rw[JW λ⟨h1,h2⟩=>hd n h2 (h1▸hl)]
   exact(h.tm e n he).bp k λi hi hn=>hN i hn (h.fZ _ i hi)
 ·intro b
  rw[St.a_]
  cases hl:W.look (.x b)with
  |some u=>have:=hr.bx b;rw[hw _ _ hl]at this;exact this
  |none=>
   by_cases hu:s.get (.x b)=.un
   ·simp only[Option.getD_none,hu];trivial
   ·exact(h.bx b).bp k (λhk=>hk hl) (λhn=>hN b hn (h.key b (.inl hu))) λi hi hn=>hN i hn (h.fZ _ i hi)
 ·intro i
  rw[St.a_]
  cases hl:W.look (.o i)with
  |some u=>have:=hr.ob i;rw[hw _ _ hl]at this;exact this
  |none=>
   by_cases hu:s.get (.o i)=.un
   ·simp only[Option.getD_none,hu];trivial
   ·exact(h.ob i).bp k (λp hk=>hk hl) (λhn=>hN i hn (h.key i (.inr hu))) λj hj hn=>hN j hn (h.fZ _ j hj)
 ·intro r i hi
  rw[St.a_]at hi
  cases hl:W.look r with
  |some u=>rw[hl]at hi;refine hr.fZ r i ?_;rw[hw _ _ hl];exact hi
  |none=>rw[hl]at hi;exact hM i (h.fZ r i hi)
 ·intro i hi
  rw[St.a_,St.a_]at hi
  rcases hi with hi|hi
  ·cases hl:W.look (.x i)with
   |some u=>rw[hl]at hi;exact hr.key i (.inl (by rw[hw _ _ hl];exact hi))
   |none=>rw[hl]at hi;exact hM i (h.key i (.inl hi))
  ·cases hl:W.look (.o i)with
   |some u=>rw[hl]at hi;exact hr.key i (.inr (by rw[hw _ _ hl];exact hi))
   |none=>rw[hl]at hi;exact hM i (h.key i (.inr hi))
theorem Rel.Fx{M:Nat->Prop}{B:eT}{d:Nat}{up:Nat->Nat->Value}{s:St}{ρ:List T}{G:Gh}{a:Act}{w:World}(h:Rel M B d up s ρ G a w)
  {n:Nat}{x:SV}{v:Value}(hn:n<a.tmps.size)(hr:cL G w ρ x v)(hm:∀i∈dt x,M i):
  Rel M B d up (s.set (.t d n) x) ρ G (a.put (some n) v) w:=by
 have hg:∀r,r≠.t d n->(s.set (.t d n) x).get r=s.get r:=λr hr=>St.ei _ _ (Ne.symm hr)
 refine⟨λe m he=>?_,λb=>?_,λi=>?_,λr i hi=>?_,λi hi=>?_,h.iO,h.dn,h.base,h.bt⟩
 ·by_cases km:(bD.t e m)=.t d n
  ·cases km;rw[St.cq,RZ hn];exact hr
  ·rw[hg _ km,JW λ⟨h1,h2⟩=>km (by cases h1;cases h2;rfl)];exact h.tm e m he
 ·rw[hg _ (by simp)];exact h.bx b
 ·rw[hg _ (by simp)];exact h.ob i
 ·by_cases km:r=.t d n
  ·subst km;rw[St.cq]at hi;exact hm i hi
  ·rw[hg _ km]at hi;exact h.fZ r i hi
 ·rw[hg _ (by simp),hg _ (by simp)]at hi;exact h.key i hi
def bJ(S:Nat->aB)(ρ:List T):Nat->List E5->Prop
 |_,[]=>True
 |e,.pr p xs::is=>∃n t,e=n+1∧p.ev (xs.map (Lf.ev ρ))=some t∧ρ[n]?=some t∧bJ S ρ n is
 |e,.cl g xs m::is=>∃n ts,e=n+m∧S g (xs.map (Lf.ev ρ))=some ts∧(∀i,i<m->ρ[n+i]?=some (ts.getD i T.bH))∧bJ S ρ n is
def Wk.bJ(S:Nat->aB)(ρ:List T)(k:Wk):Prop:=Go.Proofs.YtjimmglpkndemaaGreatC.bJ S ρ k.ct.a k.is
structure Wk.e_ (k k':Wk):Prop where
 r:k'.r=k.r
 w:k'.w=k.w
 i:k'.ct.i=k.ct.i
theorem Wk.e_.refl(k:Wk):k.e_ k:=⟨rfl,rfl,rfl⟩
theorem Wk.e_.trans{a b c:Wk}(h:a.e_ b)(h':b.e_ c):a.e_ c:=⟨h'.r.trans h.r,h'.w.trans h.w,h'.i.trans h.i⟩
theorem Wk.e_.get{k k':Wk}(h:k.e_ k')(r:bD):k'.get r=k.get r:=by simp[Wk.get,h.r,h.w]
section
variable {S:Nat->aB} {ρ:List T}
theorem Wk.bM(k:Wk)(p:Prim)(xs:List Lf):k.e_ (k.em p xs).1:=⟨rfl,rfl,rfl⟩
theorem Wk.bV{k:Wk}{p:Prim}{xs:List Lf}(h:(k.em p xs).1.bJ S ρ):
  k.bJ S ρ∧∃t,p.ev (xs.map (Lf.ev ρ))=some t∧(k.em p xs).2.fN ρ=some t:=by
 obtain⟨n,t,h1,h2,h3,h4⟩:=h
 have:n=k.ct.a:=by simp[Wk.em]at h1;omega
 subst this
 exact⟨h4,t,h2,h3⟩
def i_:List (Nat×Nat)->T->Option T
 | [],t=>some t
 |(i,j)::p,.l xs=>(dP xs i j).bind (i_ p)
 |_,_=>none
theorem zO{x:Lf}{i:Nat}(h:mY ρ x=some i):∃k,(x.ev ρ)=.c (.int k i):=by
 unfold mY at h
 split at h
 ·rename_i k n hx
  split at h
  ·rename_i h0
   cases h
   exact⟨k,by rw[Lf.bU hx];congr 2;exact(Int.toNat_of_nonneg h0).symm⟩
  ·cases h
 ·cases h
theorem Cv{xs:List (List T)}{k:IntKind}{i:Nat}:wK (.l xs) (.c (.int k (i:Int)))=xs[i]?:=by
 simp[wK,T.rows,T.int]
theorem Fy{x ix:Lf}{w j i:Nat}{xs:List (List T)}{t:T}(hx:x.fN ρ=some (.l xs))(hi:mY ρ ix=some i)
  (h:Prim.ev (.kh w j) [x.ev ρ,ix.ev ρ]=some t):∃ys,t=.l ys∧dP xs i j=some (.l ys)∧∃r,xs[i]?=some r∧r.length=w:=by
 obtain⟨k,hk⟩:=zO hi
 rw[Lf.bU hx,hk]at h
 simp only[Prim.ev,Cv]at h
 cases hr:xs[i]? with
 |none=>simp[hr]at h
 |some r=>
  simp only[hr,Option.bind_some]at h
  split at h
  ·rename_i hl
   cases hj:r[j]? with
   |none=>simp[hj]at h
   |some u=>
    cases u with
    |c v=>simp[hj,T.rows]at h
    |l ys=>
     simp[hj,T.rows]at h
     exact⟨ys,h.symm,by simp[dP,hr,hj],r,rfl,hl⟩
  ·cases h
theorem Wk.fx:∀(q:oJ) (k:Wk) (x:Lf),k.e_ (k.down x q).1
 | [],k,x=>.refl k
 |(ix,w,j)::q,k,x=>by
  simp only[Wk.down]
  exact(Wk.bM k _ _).trans (Wk.fx q _ _)
theorem Wk.lV:∀(q:oJ) (k:Wk) (x:Lf),(k.down x q).1.bJ S ρ->k.bJ S ρ
 | [],_,_,h=>h
 |(ix,w,j)::q,k,x,h=>(Wk.bV (Wk.lV q _ _ h)).1
theorem Wk.jo:∀(q:oJ) (k:Wk) (x:Lf) {t:T} {p:List (Nat×Nat)},(k.down x q).1.bJ S ρ->x.fN ρ=some t->gQ ρ q=some p->
  (q=[]∨∃xs,t=.l xs)->∃u,i_ p t=some u∧(k.down x q).2.fN ρ=some u∧(q=[]∨∃ys,u=.l ys)
 | [],k,x,t,p,h,hx,hp,_=>by
  simp only[gQ]at hp
  cases hp
  exact⟨t,rfl,hx,.inl rfl⟩
 |(ix,w,j)::q,k,x,t,p,h,hx,hp,ht=>by
  simp only[Wk.down]at h⊢
  obtain⟨xs,rfl⟩:=ht.resolve_left (by simp)
  simp only[gQ]at hp
  cases hi:mY ρ ix with
  |none=>simp[hi]at hp
  |some i=>
   cases hq:gQ ρ q with
   |none=>simp[hi,hq]at hp
   |some p'=>
    simp[hi,hq]at hp
    subst hp
    obtain⟨_,u,hu,huv⟩:=Wk.bV (Wk.lV q _ _ h)
    obtain⟨ys,rfl,bN,_⟩:=Fy hx hi hu
    obtain⟨v,hv,uR,hl⟩:=Wk.jo q _ _ h huv hq (.inr ⟨ys,rfl⟩)
    refine⟨v,by simp[i_,bN,hv],uR,.inr ?_⟩
    rcases hl with rfl|hl
    ·simp only[gQ]at hq
     cases hq
     simp[i_]at hv
     exact⟨ys,hv.symm⟩
    ·exact hl
def er(ω:Nat->Option Lb):Nat->Option Lb:=λb=>match ω b with
 |some (.x i)=>some (.x i)
 |some .f=>some .f
 |_=>none
theorem aa4{ω:Nat->Option Lb}{b:Nat}(h:ω b=none):er ω b=none:=by simp[er,h]
theorem R0{G:Gh}{b:Nat}(h:G.q b=none):er G.ω b=none:=by
 rcases RX h with h0|⟨l,h1,h2⟩
 ·exact aa4 h0
 ·cases l with
  |o i p=>simp[er,h1]
  |_=>simp[qt]at h2
theorem eP.er{G:Gh}{w:World}{t:T}{c:Value}(h:eP G.q w t c):eP (er G.ω) w t c:=
 by
 induction h with
 |c h=>exact .c h
 |nil=>exact .nil
 |l hw hc hb bE h1 h2 ih=>exact .l hw hc (R0 hb) bE h1 ih
theorem zP{w:World}{b:Nat}{arr:Array Value}{elem:TypeId}{fz:Nat×Nat}(h:w.heap[b]?=some (.cells arr elem fz))(off:Nat):
  w.cell? ⟨b,off,none⟩=arr[off]?:=by
 simp[World.cell?,h]
theorem PX{w:World}{b:Nat}{o:Obj}(h:w.heap[b]?=some o):b<w.heap.size:=(Array.getElem?_eq_some_iff.1 h).1
theorem yN{xs:List (List T)}{i j:Nat}{t:T}(h:dP xs i j=some t):∃r,xs[i]?=some r∧r∈xs∧r[j]?=some t∧i<xs.length∧j<r.length:=by
 unfold dP at h
 cases hr:xs[i]? with
 |none=>simp[hr]at h
 |some r=>
  simp[hr]at h
  exact⟨r,rfl,List.mem_of_getElem? hr,h,(List.getElem?_eq_some_iff.1 hr).1,(List.getElem?_eq_some_iff.1 h).1⟩
theorem fg.den{G:Gh}{w:World}{id:Nat}{dp:Bool}{p:List (Nat×Nat)}{t:T}(h:fg G w id dp p t):eP (er G.ω) w t (G.H id p):=by
 induction h with
 |nil h=>rw[h];exact .nil
 | @l dp p xs b wd cap arr elem cv h1 h2 h3 h4 h5 h6 h7 h8 h9 pn _ ih=>
  rw[h1]
  refine .l (cv:=cv) h6 h2.1 (by simp[er,h3]) (PX h4) (λi j t ht=>?_) λi j t ht=>?_
  ·rw[zP h4,Nat.zero_add];exact h7 i j t ht
  ·cases t with
   |c v=>obtain⟨hv,hs⟩:=h8 i j v ht;rw[hv];exact .c hs
   |l ys=>
    cases hd:dp with
    |false=>exact(h9 i j ys ht hd).er
    |true=>rw[pn i j ys ht hd];exact ih i j ys ht hd
theorem fg.R1{G:Gh}{w:World}{id:Nat}{dp:Bool}{p:List (Nat×Nat)}{t:T}(h:fg G w id dp p t)(hi:id%4=2∨(id%2=0∧p≠[]))(gN:dp=true):eP G.q w t (G.H id p):=by
 induction h with
 |nil h=>rw[h];exact .nil
 | @l dp p xs b wd cap arr elem cv h1 h2 h3 h4 h5 h6 h7 h8 h9 pn yO ih=>
  rw[h1]
  refine .l (cv:=cv) h6 h2.1 (RW h3 (hi.elim JU λh=>xE h.1 h.2)) (PX h4) (λi j t ht=>?_) λi j t ht=>?_
  ·rw[zP h4,Nat.zero_add];exact h7 i j t ht
  ·cases t with
   |c v=>obtain⟨hv,hs⟩:=h8 i j v ht;rw[hv];exact .c hs
   |l ys=>rw[pn i j ys ht gN];exact ih i j ys ht gN (hi.imp_right λh=>⟨h.1,by simp⟩) rfl
theorem fg.kh{G:Gh}{w:World}{id:Nat}:∀(q:List (Nat×Nat)) {p:List (Nat×Nat)} {t u:T},fg G w id true p t->i_ q t=some u->(∃ys,u=.l ys)->
  fg G w id true (p++q) u
 | [],p,t,u,h,hd,_=>by simp only[i_]at hd;cases hd;simpa using h
 |(i,j)::q,p,t,u,h,hd,hu=>by
  cases h with
  |nil=>simp[i_,dP]at hd
  | @l _ _ xs b wd cap arr elem cv h1 h2 h3 h4 h5 h6 h7 h8 h9 pn yO=>
   simp only[i_]at hd
   cases ha:dP xs i j with
   |none=>simp[ha]at hd
   |some v=>
    simp only[ha,Option.bind_some]at hd
    cases v with
    |c v=>
     cases q with
     |nil=>simp[i_]at hd;obtain⟨ys,rfl⟩:=hu;cases hd
     |cons a q=>simp[i_]at hd
    |l ys=>
     have:=fg.kh q (yO i j ys ha rfl) hd hu
     simpa using this
theorem Wk.dR{k k':Wk}{c:Ce}{x:Lf}(h:k.val c=some (k',x)):k.e_ k':=by
 cases c with
 |p y=>simp[Wk.val]at h;obtain⟨rfl,_⟩:=h;exact .refl _
 |n=>simp[Wk.val]at h;obtain⟨rfl,_⟩:=h;exact .refl _
 |d=>simp[Wk.val]at h
 |o id q=>
  simp only[Wk.val]at h
  split at h
  ·simp only[bF]at h
   have e1:=congrArg Prod.fst h
   simp only at e1
   subst e1
   exact Wk.fx q k _
  ·split at h
   ·simp at h;obtain⟨rfl,_⟩:=h;exact .refl _
   ·cases h
  ·split at h
   ·simp at h;obtain⟨rfl,_⟩:=h;exact .refl _
   ·cases h
  ·split at h
   ·simp at h;obtain⟨rfl,_⟩:=h;exact .refl _
   ·cases h
  ·cases h
theorem Wk.mZ{k k':Wk}{c:Ce}{x:Lf}(h:k.val c=some (k',x))(hd:k'.bJ S ρ):k.bJ S ρ:=by
 cases c with
 |p y=>simp[Wk.val]at h;obtain⟨rfl,_⟩:=h;exact hd
 |n=>simp[Wk.val]at h;obtain⟨rfl,_⟩:=h;exact hd
 |d=>simp[Wk.val]at h
 |o id q=>
  simp only[Wk.val]at h
  split at h
  ·simp only[bF]at h
   have e1:=congrArg Prod.fst h
   simp only at e1
   subst e1
   exact Wk.lV q _ _ hd
  ·split at h
   ·simp at h;obtain⟨rfl,_⟩:=h;exact hd
   ·cases h
  ·split at h
   ·simp at h;obtain⟨rfl,_⟩:=h;exact hd
   ·cases h
  ·split at h
   ·simp at h;obtain⟨rfl,_⟩:=h;exact hd
   ·cases h
  ·cases h
theorem Wk.lW{k k':Wk}{c:Ce}{x:Lf}{G:Gh}{w:World}{v:Value}(h:k.val c=some (k',x))(hd:k'.bJ S ρ)
  (hr:gf G w ρ c v)(ho:∀id,id∈dN [c]->cM G w ρ id (k.get (.o id))):∃t,x.fN ρ=some t∧eP (er G.ω) w t v:=by
 cases c with
 |p y=>simp[Wk.val]at h;obtain⟨_,rfl⟩:=h;obtain⟨t,h1,h2⟩:=hr;exact⟨t,h1,h2.er⟩
 |n=>simp[Wk.val]at h;obtain⟨_,rfl⟩:=h;cases hr;exact⟨_,rfl,.nil⟩
 |d=>simp[Wk.val]at h
 |o id q=>
  have ej:=ho id (by simp[dN])
  obtain⟨p,hp,rfl⟩:=hr
  simp only[Wk.val]at h
  split at h
  ·rename_i y hk
   simp only[hk,cM]at ej
   obtain⟨t,ht,bQ⟩:=ej
   simp only[bF]at h
   have e1:=congrArg Prod.fst h
   have e2:=congrArg Prod.snd h
   simp only at e1 e2
   subst e1 e2
   have hl:∃ys,t=.l ys:=by cases bQ<;>exact⟨_,rfl⟩
   obtain⟨u,hu,hxu,lu⟩:=Wk.jo q k y hd ht (vB hp) (.inr hl)
   refine⟨u,hxu,?_⟩
   have R2:∃ys,u=.l ys:=by
    rcases lu with rfl|h'
    ·simp only[nz]at hp;cases hp;simp[i_]at hu;subst hu;exact hl
    ·exact h'
   have:=(fg.kh p bQ hu R2).den
   simpa using this
  ·rename_i y hk
   split at h
   ·simp at h
    obtain⟨_,rfl⟩:=h
    simp only[hk,cM]at ej
    obtain⟨t,ht,bQ⟩:=ej
    simp only[nz]at hp;cases hp
    exact⟨t,ht,bQ.den⟩
   ·cases h
  ·rename_i y hk
   split at h
   ·simp at h
    obtain⟨_,rfl⟩:=h
    simp only[hk,cM]at ej
    obtain⟨t,ht,bQ,_⟩:=ej
    simp only[nz]at hp;cases hp
    exact⟨t,ht,bQ.er⟩
   ·cases h
  ·rename_i y hk
   split at h
   ·simp at h
    obtain⟨_,rfl⟩:=h
    simp only[hk,cM]at ej
    obtain⟨_,t,ht,bQ⟩:=ej
    simp only[nz]at hp;cases hp
    exact⟨t,ht,bQ.den⟩
   ·cases h
  ·cases h
end
section
variable {M:Nat->Prop} {B:eT} {d:Nat} {up:Nat->Nat->Value} {s:St} {ρ:List T} {G:Gh} {a:Act} {w:World}
theorem Rel.forget(h:Rel M B d up s ρ G a w){s':St}(hs:∀r,s'.get r=s.get r∨s'.get r=.un):Rel M B d up s' ρ G a w:=by
 refine⟨λe n he=>?_,λb=>?_,λi=>?_,λr i hi=>?_,λi hi=>?_,h.iO,h.dn,h.base,h.bt⟩
 ·rcases hs (.t e n)with hr|hr
  ·rw[hr];exact h.tm e n he
  ·rw[hr];trivial
 ·rcases hs (.x b)with hr|hr
  ·rw[hr];exact h.bx b
  ·rw[hr];trivial
 ·rcases hs (.o i)with hr|hr
  ·rw[hr];exact h.ob i
  ·rw[hr];trivial
 ·rcases hs r with hr|hr
  ·rw[hr]at hi;exact h.fZ r i hi
  ·rw[hr]at hi;simp[dt]at hi
 ·refine h.key i ?_
  rcases hi with hi|hi
  ·rcases hs (.x i)with hr|hr
   ·exact .inl (hr▸hi)
   ·exact absurd hr hi
  ·rcases hs (.o i)with hr|hr
   ·exact .inr (hr▸hi)
   ·exact absurd hr hi
theorem Rel.congr(h:Rel M B d up s ρ G a w){s':St}(hs:∀r,s'.get r=s.get r):Rel M B d up s' ρ G a w:=h.forget λr=>.inl (hs r)
def Gh.free(G:Gh)(id:Nat)(all:Bool):Gh:=
 {G with ω:=λb=>match G.ω b with
   |some (.o i p)=>if i=id∧(all=true∨p≠[])then none else some (.o i p)
   |l=>l}
theorem Gh.j7{G:Gh}{id b:Nat}{all:Bool}(h:G.ω b=none):(G.free id all).ω b=none:=by simp[Gh.free,h]
theorem Gh.vD{G:Gh}{id b i:Nat}{p:List (Nat×Nat)}{all:Bool}(h:G.ω b=some (.o i p))(hi:i=id)(ha:all=true∨p≠[]):(G.free id all).ω b=none:=by
 simp only[Gh.free,h]
 rw[if_pos ⟨hi,ha⟩]
theorem Gh.tU{G:Gh}{id b:Nat}{all:Bool}(h:G.q b=none):(G.free id all).q b=none:=by
 refine vA h Gh.j7 λl hl hq=>?_
 cases l with
 |o i p=>
  simp only[Gh.free,hl]
  split
  ·exact .inl rfl
  ·exact .inr ⟨_,rfl,hq⟩
 |_=>simp[qt]at hq
theorem Gh.fy(G:Gh)(id:Nat)(all:Bool)(w:World):dA (λl=>∃p,l=.o id p) (λ_=>False) G w (G.free id all) w:=by
 refine⟨Nat.le_refl _,λb _ hb=>⟨Gh.tU hb,rfl⟩,λb _ hb=>Gh.j7 hb,λb l hb hl=>⟨?_,rfl⟩,λ_ _=>⟨rfl,λ_ _=>rfl⟩⟩
 cases l with
 |f=>simp[Gh.free,hb]
 |x i=>simp[Gh.free,hb]
 |o i p=>
  have:i≠id:=λe=>hl ⟨p,by rw[e]⟩
  simp[Gh.free,hb,this]
theorem fg.Cw{id:Nat}{p:List (Nat×Nat)}{t:T}{dp:Bool}(h:fg G w id dp p t)(hp:p≠[])(gN:dp=true):eP (G.free id false).q w t (G.H id p):=by
 induction h with
 |nil h=>rw[h];exact .nil
 | @l dp p xs b wd cap arr elem cv h1 h2 h3 h4 h5 h6 h7 h8 h9 pn yO ih=>
  rw[h1]
  refine .l (cv:=cv) h6 h2.1 (Cr (Gh.vD h3 rfl (.inr hp))) (PX h4) (λi j t ht=>?_) λi j t ht=>?_
  ·rw[zP h4,Nat.zero_add];exact h7 i j t ht
  ·cases t with
   |c v=>obtain⟨hv,hs⟩:=h8 i j v ht;rw[hv];exact .c hs
   |l ys=>rw[pn i j ys ht gN];exact ih i j ys ht gN (by simp) rfl
theorem fg.yP{id:Nat}{p:List (Nat×Nat)}{t:T}{dp:Bool}(h:fg G w id dp p t):eP (G.free id true).q w t (G.H id p):=by
 induction h with
 |nil h=>rw[h];exact .nil
 | @l dp p xs b wd cap arr elem cv h1 h2 h3 h4 h5 h6 h7 h8 h9 pn yO ih=>
  rw[h1]
  refine .l (cv:=cv) h6 h2.1 (Cr (Gh.vD h3 rfl (.inl rfl))) (PX h4) (λi j t ht=>?_) λi j t ht=>?_
  ·rw[zP h4,Nat.zero_add];exact h7 i j t ht
  ·cases t with
   |c v=>obtain⟨hv,hs⟩:=h8 i j v ht;rw[hv];exact .c hs
   |l ys=>
    cases hd:dp with
    |false=>exact(h9 i j ys ht hd).bp (Nat.le_refl _) λb _ hb=>⟨Gh.tU hb,rfl⟩
    |true=>rw[pn i j ys ht hd];exact ih i j ys ht hd
theorem Rel.nl(h:Rel M B d up s ρ G a w){id:Nat}{dp:Bool}{x:Lf}(hx:s.get (.o id)=.ob dp x):
  Rel M B d up (s.set (.o id) (.fz .z x)) ρ (G.free id true) a w:=by
 have k:=G.fy id true w
 have hg:∀r,r≠.o id->(s.set (.o id) (.fz .z x)).get r=s.get r:=λr hr=>St.ei _ _ (Ne.symm hr)
 refine⟨λe n he=>?_,λb=>?_,λi=>?_,λr i hi=>?_,λi hi=>?_,λb l hb=>?_,h.dn,?_,h.bt⟩
 ·rw[hg _ (by simp)];exact(h.tm e n he).bp k λ_ _ hn=>hn
 ·rw[hg _ (by simp)]
  exact(h.bx b).bp k (λ⟨p,hp⟩=>by cases hp) (λhn=>hn) λ_ _ hn=>hn
 ·by_cases hi:i=id
  ·subst hi
   rw[St.cq]
   obtain⟨t,ht,ho⟩:=(by simpa only[hx]using h.ob i:cM G w ρ i (.ob dp x))
   exact⟨t,ht,ho.yP,trivial⟩
  ·rw[hg _ (by simpa using hi)];exact(h.ob i).bp k (λp ⟨q,hq⟩=>hi (by cases hq;rfl)) (λhn=>hn) λ_ _ hn=>hn
 ·by_cases hr:r=.o id
  ·subst hr;rw[St.cq]at hi;simp[dt]at hi
  ·rw[hg r hr]at hi;exact h.fZ r i hi
 ·refine h.key i ?_
  rcases hi with hi|hi
  ·exact .inl (by rwa[hg _ (by simp)]at hi)
  ·by_cases sO:i=id
   ·subst sO;exact .inr (by rw[hx];simp)
   ·exact .inr (by rwa[hg _ (by simpa using sO)]at hi)
 ·refine h.iO b l ?_
  simp only[Gh.free]at hb
  split at hb
  ·split at hb
   ·cases hb
   ·rename_i hw _;rw[hw];exact hb
  ·exact hb
 ·refine⟨h.base.os,h.base.tape,h.base.output,h.base.size,λb hb h0=>?_,λb hb=>?_,h.base.gl⟩
  ·obtain⟨h1,h2⟩:=h.base.free b hb h0
   exact⟨Gh.j7 h1,h2⟩
  ·obtain⟨h1,h2⟩:=h.base.Eu b hb
   exact⟨by simp[Gh.free,h1],h2⟩
theorem Rel.flat(h:Rel M B d up s ρ G a w){id:Nat}{dp:Bool}{x:Lf}(hx:s.get (.o id)=.ob dp x):
  Rel M B d up (s.set (.o id) (.ob false x)) ρ (G.free id false) a w:=by
 have k:=G.fy id false w
 have hg:∀r,r≠.o id->(s.set (.o id) (.ob false x)).get r=s.get r:=λr hr=>St.ei _ _ (Ne.symm hr)
 refine⟨λe n he=>?_,λb=>?_,λi=>?_,λr i hi=>?_,λi hi=>?_,λb l hb=>?_,h.dn,?_,h.bt⟩
 ·rw[hg _ (by simp)];exact(h.tm e n he).bp k λ_ _ hn=>hn
 ·rw[hg _ (by simp)]
  exact(h.bx b).bp k (λ⟨p,hp⟩=>by cases hp) (λhn=>hn) λ_ _ hn=>hn
 ·by_cases hi:i=id
  ·subst hi
   rw[St.cq]
   obtain⟨t,ht,ho⟩:=(by simpa only[hx]using h.ob i:cM G w ρ i (.ob dp x))
   refine⟨t,ht,?_⟩
   cases ho with
   |nil h=>exact .nil h
   | @l _ _ xs b wd cap arr elem cv h1 h2 h3 h4 h5 h6 h7 h8 h9 pn yO=>
    refine .l (cv:=cv) h1 h2 (by simp[Gh.free,h3]) h4 h5 h6 h7 h8 (λp j ys hy _=>?_) (λ_ _ _ _ hf=>by cases hf) (λ_ _ _ _ hf=>by cases hf)
    cases hd:dp with
    |false=>exact(h9 p j ys hy hd).bp (Nat.le_refl _) λb _ hb=>⟨Gh.tU hb,rfl⟩
    |true=>rw[pn p j ys hy hd];exact(yO p j ys hy hd).Cw (by simp) rfl
  ·rw[hg _ (by simpa using hi)];exact(h.ob i).bp k (λp ⟨q,hq⟩=>hi (by cases hq;rfl)) (λhn=>hn) λ_ _ hn=>hn
 ·by_cases hr:r=.o id
  ·subst hr;rw[St.cq]at hi;simp[dt]at hi
  ·rw[hg r hr]at hi;exact h.fZ r i hi
 ·refine h.key i ?_
  rcases hi with hi|hi
  ·exact .inl (by rwa[hg _ (by simp)]at hi)
  ·by_cases sO:i=id
   ·subst sO;exact .inr (by rw[hx];simp)
   ·exact .inr (by rwa[hg _ (by simpa using sO)]at hi)
 ·refine h.iO b l ?_
  simp only[Gh.free]at hb
  split at hb
  ·split at hb
   ·cases hb
   ·rename_i hw _;rw[hw];exact hb
  ·exact hb
 ·refine⟨h.base.os,h.base.tape,h.base.output,h.base.size,λb hb h0=>?_,λb hb=>?_,h.base.gl⟩
  ·obtain⟨h1,h2⟩:=h.base.free b hb h0
   exact⟨Gh.j7 h1,h2⟩
  ·obtain⟨h1,h2⟩:=h.base.Eu b hb
   exact⟨by simp[Gh.free,h1],h2⟩
end
def xG:List Ce->List Value->Bool
 | [],[]=>true
 | .p (.k (.int k n))::cs,.int k' n'::vs=>decide (k=k')&&decide (n=n')&&xG cs vs
 | .p (.k (.bool b))::cs,.bool b'::vs=>decide (b=b')&&xG cs vs
 | .p (.k (.string x))::cs,.string x'::vs=>decide (x=x')&&xG cs vs
 | .n::cs,.slice none 0 0::vs=>xG cs vs
 |_,_=>false
def zQ(P:Program):List (Nat×Nat)->List Field->Bool
 | [],[]=>true
 |o::os,f::fs=>Nat.beq f.offset o.1&&(match P.info? f.type with|some i=>!Nat.beq i.size 0&&Nat.beq i.size o.2|none=>false)&&zQ P os fs
 |_,_=>false
def tV(P:Program):Nat->List Ce->List Field->Bool
 |_,[],[]=>true
 |i,z::zs,f::fs=>Nat.beq f.offset i&&decide (f.name≠"_")&&(match P.underlying f.type with|some (.int _)=>Nat.beq (np z) 1|some .bool=>Nat.beq (np z) 4|some .string=>Nat.beq (np z) 2|_=>false)&&tV P (i+1) zs fs
 |_,_,_=>false
def tyB(P:Program)(t:Nat)(ti:TI):Bool:=
 match P.info? t,P.underlying t with
 |some i,some u=>
  Nat.beq i.size ti.sz&&Nat.beq i.bytes ti.bytes&&(match i.zero with|some z=>xG ti.zero z.cells.toList|none=>false)&&Nat.beq ti.zero.length ti.sz&&
  (match u with
   | .struct fs=>ti.ag&&(Nat.beq ti.kd 0||(Nat.beq ti.kd 5&&Nat.beq fs.size ti.sz&& !P.stoodInHeld t&& !P.eqGuardType P.depth t&&tV P 0 ti.zero fs.toList))&&zQ P ti.fs fs.toList
   | .array ..=>false
   | .slice e=>!ti.ag&&Nat.beq ti.sz 1&&Nat.beq ti.kd 3&&Nat.beq e ti.el&&ti.fs.isEmpty
   | .int kk=>!ti.ag&&Nat.beq ti.sz 1&&Nat.beq ti.kd 1&&(match ti.zero with| [.p (.k (.int k' _))]=>decide (kk=k')|_=>false)&&ti.fs.isEmpty
   | .string=>!ti.ag&&Nat.beq ti.sz 1&&Nat.beq ti.kd 2&&ti.fs.isEmpty
   | .bool=>!ti.ag&&Nat.beq ti.sz 1&&Nat.beq ti.kd 4&&ti.fs.isEmpty
   |_=>!ti.ag&&Nat.beq ti.sz 1&&Nat.beq ti.kd 0&&ti.fs.isEmpty)
 |_,_=>false
def Cy:List Ce->List Value->Prop
 | [],[]=>True
 | .p (.k v)::cs,v'::vs=>v=v'∧lr v=true∧Cy cs vs
 | .n::cs,v::vs=>v=.slice none 0 0∧Cy cs vs
 |_,_=>False
theorem aa6:∀{cs:List Ce} {vs:List Value},xG cs vs=true->Cy cs vs:=by
 intro cs
 induction cs with
 |nil=>intro vs h;cases vs<;>simp_all[xG,Cy]
 |cons c cs ih=>
  intro vs h
  cases vs with
  |nil=>cases c<;>simp_all[xG]
  |cons v vs=>
   cases c with
   |p x=>
    cases x with
    |k u=>
     cases u<;>cases v<;>simp_all[xG,Cy,lr]
    |a n=>simp[xG]at h
    |e=>simp[xG]at h
   |o id q=>simp[xG]at h
   |n=>
    cases v with
    |slice a l c=>
     unfold xG at h
     split at h<;>simp_all[Cy]
    |_=>simp[xG]at h
   |d=>simp[xG]at h
structure vE (P:Program) (t:Nat) (ti:TI):Prop where
 info:∃i z,P.info? t=some i∧i.size=ti.sz∧i.bytes=ti.bytes∧i.zero=some z∧Cy ti.zero z.cells.toList
 Fz:ti.zero.length=ti.sz
 one:ti.ag=false->ti.sz=1
 ag:∃u,P.underlying t=some u∧(ti.ag=true↔∃fs,u=.struct fs)∧(∀n e,u≠.array n e)
 sl:ti.kd=3->P.underlying t=some (.slice ti.el)
 it:ti.kd=1->∃k,P.underlying t=some (.int k)
 st:ti.kd=2->P.underlying t=some .string
 ik:ti.kd=1->∀k n,ti.zero=[.p (.k (.int k n))]->P.underlying t=some (.int k)
 bo:ti.kd=4->P.underlying t=some .bool
 ni:ti.kd≠1->∀k,P.underlying t≠some (.int k)
 fs:∀(f:Nat) (o:Nat×Nat),ti.fs[f]?=some o->∃(fs:Array Field) (Bn:Field) (i:TypeInfo),P.underlying t=some (.struct fs)∧fs[f]?=some Bn∧Bn.offset=o.1∧P.info? Bn.type=some i∧i.size≠0∧i.size=o.2
 fl:∀fs,P.underlying t=some (.struct fs)->fs.size=ti.fs.length
 eq:ti.kd=5->∃fs:Array Field,P.underlying t=some (.struct fs)∧fs.size=ti.sz∧P.stoodInHeld t=false∧P.eqGuardType P.depth t=false∧tV P 0 ti.zero fs.toList=true
theorem JX{P:Program}:∀{os:List (Nat×Nat)} {fs:List Field},zQ P os fs=true->fs.length=os.length∧∀(f:Nat) (o:Nat×Nat),os[f]?=some o->
  ∃(Bn:Field) (i:TypeInfo),fs[f]?=some Bn∧Bn.offset=o.1∧P.info? Bn.type=some i∧i.size≠0∧i.size=o.2
 | [],[],_=>⟨rfl,λf o h=>by simp at h⟩
 | [],_::_,h=>by simp[zQ]at h
 |o::os,[],h=>by simp[zQ]at h
 |o::os,fl::fs,h=>by
  simp only[zQ,bI]at h
  obtain⟨⟨h1,h2⟩,h3⟩:=h
  obtain⟨hl,hr⟩:=JX h3
  refine⟨by simp[hl],λf o' hf=>?_⟩
  cases f with
  |zero=>
   simp at hf
   subst hf
   cases hi:P.info? fl.type with
   |none=>simp[hi]at h2
   |some i=>
    simp only[hi,bI]at h2
    exact⟨fl,i,rfl,dU h1,hi,λe=>by simp[e]at h2,dU h2.2⟩
  |succ f=>exact hr f o' (by simpa using hf)
theorem aa7{P:Program}{t:Nat}{ti:TI}(h:tyB P t ti=true):vE P t ti:=by
 unfold tyB at h
 split at h
 ·rename_i i u hi hu
  simp only[bI]at h
  obtain⟨⟨⟨⟨h1,h2⟩,h3⟩,h4⟩,h5⟩:=h
  have z:∃z,i.zero=some z∧Cy ti.zero z.cells.toList:=by
   split at h3
   ·rename_i z hz;exact⟨z,hz,aa6 h3⟩
   ·cases h3
  obtain⟨z,hz,zR⟩:=z
  refine⟨⟨i,z,hi,dU h1,dU h2,hz,zR⟩,dU h4,?_,⟨u,hu,?_,?_⟩,?_,?_,?_,?_,?_,?_,?_,?_,?_⟩
  ·intro ha;split at h5<;>simp_all
  ·split at h5<;>simp_all
  ·intro n e dI;subst dI;simp at h5
  ·intro hk;rw[hu];split at h5<;>simp_all
  ·intro hk;rw[hu];split at h5<;>simp_all
  ·intro hk;rw[hu];split at h5<;>simp_all
  ·intro hk k n hz
   rw[hu]
   rw[hz,hk]at h5
   split at h5
   ·simp only[bI,Bool.or_eq_true]at h5
    obtain⟨⟨_,h6⟩,_⟩:=h5
    rcases h6 with h6|⟨⟨⟨⟨h6,_⟩,_⟩,_⟩,_⟩<;>exact absurd h6 (by decide)
   ·cases h5
   ·simp only[bI]at h5
    exact absurd h5.1.1.2 (by decide)
   ·simp only[bI,decide_eq_true_eq]at h5
    rw[h5.1.2]
   all_goals
    simp only[bI]at h5
    exact absurd h5.1.2 (by decide)
  ·intro hk;rw[hu];split at h5<;>simp_all
  ·intro hk k dI;rw[hu]at dI;cases dI;simp at h5;exact hk h5.1.1.2
  ·intro f o hf
   rw[hu]
   split at h5
   ·rename_i fs
    simp only[bI]at h5
    obtain⟨Bn,i',h6,h7⟩:=(JX h5.2).2 f o hf
    exact⟨fs,Bn,i',rfl,by simpa using h6,h7⟩
   ·cases h5
   all_goals
    simp only[bI,List.isEmpty_iff]at h5
    rw[h5.2]at hf
    simp at hf
  ·intro fs wO
   rw[hu]at wO
   cases wO
   simp only[bI]at h5
   have:=(JX h5.2).1
   simpa using this
  ·intro hk
   rw[hu]
   split at h5
   ·rename_i fs
    simp only[bI,Bool.or_eq_true,Bool.not_eq_true']at h5
    obtain⟨⟨_,h6⟩,_⟩:=h5
    rcases h6 with h6|⟨⟨⟨⟨_,h7⟩,h8⟩,h9⟩,pn⟩
    ·have:=dU h6;omega
    ·exact⟨fs,rfl,dU h7,h8,h9,pn⟩
   ·cases h5
   all_goals
    simp[hk]at h5
 ·cases h
section
variable {M:Nat->Prop} {B:eT} {d:Nat} {up:Nat->Nat->Value} {ρ:List T} {G:Gh} {a:Act} {w:World} {S:Nat->aB}
structure dy (M:Nat->Prop) (B:eT) (d:Nat) (up:Nat->Nat->Value) (ρ:List T) (G:Gh) (a:Act) (w:World) (k:Wk) (G1:Gh):Prop where
 rel:Rel M B d up (k.r.fw k.w) ρ G1 a w
 bp:dA (qC k.w) (λ_=>False) G w G1 w
theorem Wk.a_(k:Wk)(r:bD):k.get r=(k.r.fw k.w).get r:=by
 rw[St.a_]
 unfold Wk.get
 cases k.w.look r<;>rfl
theorem IJ{W:St}{r:bD}{v:SV}{l:Lb}(h:qC W l):qC (W.set r v) l:=by
 cases l with
 |f=>exact h
 |x b=>
  show(W.set r v).look (.x b)≠none
  by_cases hr:r=.x b
  ·subst hr;rw[St.bB];simp
  ·rw[St.cG _ _ hr];exact h
 |o i p=>
  show(W.set r v).look (.o i)≠none
  by_cases hr:r=.o i
  ·subst hr;rw[St.bB];simp
  ·rw[St.cG _ _ hr];exact h
theorem IK(s W:St)(r:bD)(v:SV)(r':bD):(s.fw (W.set r v)).get r'=((s.fw W).set r v).get r':=by
 rw[St.a_]
 by_cases h:r=r'
 ·subst h;rw[St.bB,St.cq];rfl
 ·rw[St.cG _ _ h,St.ei _ _ h,St.a_]
theorem dy.start{s:St}(h:Rel M B d up s ρ G a w)(R:List bD)(ct:Ct):dy M B d up ρ G a w ⟨s.only R,[],ct,[]⟩ G:=by
 refine⟨h.forget λr=>?_,(dA.refl G w).mono (λ_ h=>h.elim) λ_ h=>h⟩
 by_cases hr:r∈R
 ·exact .inl (St.Cu s R hr)
 ·exact .inr (St.tT s R hr)
theorem dy.same{k k':Wk}{G1:Gh}(h:dy M B d up ρ G a w k G1)(hs:k.e_ k'):dy M B d up ρ G a w k' G1:=by
 obtain⟨h1,h2,h3⟩:=hs
 exact⟨by rw[h1,h2];exact h.rel,by rw[h2];exact h.bp⟩
theorem dy.obj{k:Wk}{G1:Gh}(h:dy M B d up ρ G a w k G1)(id:Nat):cM G1 w ρ id (k.get (.o id)):=by
 rw[Wk.a_];exact h.rel.ob id
theorem dy.nl{k k':Wk}{G1:Gh}(h:dy M B d up ρ G a w k G1){id:Nat}(hk:k.nl id=some k'):
  ∃G2,dy M B d up ρ G a w k' G2∧G2.β=G1.β∧G2.H=G1.H∧k'.r=k.r∧k'.ct=k.ct∧k'.is=k.is:=by
 unfold Wk.nl at hk
 split at hk
 ·rename_i dp x hx
  cases hk
  rw[Wk.a_]at hx
  refine⟨_,⟨(h.rel.nl hx).congr (IK _ _ _ _),(h.bp.mono (λl hl=>IJ hl) λ_ hn=>hn).trans ((G1.fy id true w).mono ?_ λ_ hn=>hn)⟩,rfl,rfl,rfl,rfl,rfl⟩
  rintro l ⟨p,rfl⟩
  show(k.w.set _ _).look (.o id)≠none
  rw[St.bB];simp
 ·cases hk;exact⟨G1,h,rfl,rfl,rfl,rfl,rfl⟩
 ·cases hk
theorem dy.flat{k k':Wk}{G1:Gh}(h:dy M B d up ρ G a w k G1){id:Nat}(hk:k.flat id=some k'):
  ∃G2,dy M B d up ρ G a w k' G2∧G2.β=G1.β∧G2.H=G1.H∧k'.r=k.r∧k'.ct=k.ct∧k'.is=k.is:=by
 unfold Wk.flat at hk
 split at hk
 ·rename_i dp x hx
  cases hk
  rw[Wk.a_]at hx
  refine⟨_,⟨(h.rel.flat hx).congr (IK _ _ _ _),(h.bp.mono (λl hl=>IJ hl) λ_ hn=>hn).trans ((G1.fy id false w).mono ?_ λ_ hn=>hn)⟩,rfl,rfl,rfl,rfl,rfl⟩
  rintro l ⟨p,rfl⟩
  show(k.w.set _ _).look (.o id)≠none
  rw[St.bB];simp
 ·cases hk;exact⟨G1,h,rfl,rfl,rfl,rfl,rfl⟩
 ·cases hk
def bT(P:Program)(M:Nat->Prop)(B:eT)(d:Nat)(up:Nat->Nat->Value)(ρ:List T)(a:Act)(w:World)(s:St)(o:Oper)(W:St)(Q:Exit->Act->World->Prop):Prop:=
 o.wp P a w (λa' w'=>∃G',Rel M B d up (s.fw W) ρ G' a' w'∧a'.tmps.size=a.tmps.size) Q
theorem Cz(a:Act)(dst:Option Nat)(v:Value):(a.put dst v).tmps.size=a.tmps.size:=by
 cases dst<;>simp[Act.put]
theorem aa8{P:Program}{s:St}{k:Wk}{G1:Gh}(h:Rel M B d up s ρ G a w)(hk:dy M B d up ρ G a w k G1){o:Oper}{n:Nat}(ho:o.dst=some n)(hn:n<a.tmps.size)
  {v:Value}(hx:(execOp a.eval o).run P w=.ok (.value v) w){x:SV}(hv:cL G1 w ρ x v)(hm:∀i∈dt x,M i)(Q:Exit->Act->World->Prop):
  bT P M B d up ρ a w s o (k.w.set (.t d n) x) Q:=by
 simp only[bT,Oper.wp,hx,Oper.upon,ho]
 refine⟨G1,h.glue (s':=k.r) (hk.bp.mono (λl hl=>IJ hl) λ_ hf=>hf) (λ_ hf=>hf.elim) (λ_ hm=>hm) ?_ ?_,Cz _ _ _⟩
 ·intro m Bo;cases Bo;rw[St.bB];simp
 ·exact(hk.rel.Fx hn hv hm).congr (IK _ _ _ _)
theorem aa9{P:Program}{s:St}{k:Wk}{G1:Gh}(h:Rel M B d up s ρ G a w)(hk:dy M B d up ρ G a w k G1){o:Oper}(ho:o.dst=none)
  {v:Value}(hx:(execOp a.eval o).run P w=.ok (.value v) w)(Q:Exit->Act->World->Prop):
  bT P M B d up ρ a w s o k.w Q:=by
 simp only[bT,Oper.wp,hx,Oper.upon,ho]
 exact⟨G1,h.glue (s':=k.r) (dst:=none) (hk.bp.mono (λl hl=>hl) λ_ hf=>hf) (λ_ hf=>hf.elim) (λ_ hm=>hm) (λ_ hf=>by cases hf) hk.rel,rfl⟩
theorem aa_{v:Value}:cL G w ρ (Cf v) v:=by
 unfold Cf
 split
 ·exact⟨_,rfl,rfl,λ_ h=>by cases h⟩
 ·rename_i dI
  cases hs:lr v with
  |false=>trivial
  |true=>
   refine⟨_,rfl,⟨.c v,by simp[Lf.fN,hs],.c hs⟩,λx h=>?_⟩
   subst h;simp[lr]at hs
theorem aa'{v:Value}:dt (Cf v)=[]:=by
 unfold Cf
 split
 ·rfl
 ·cases lr v<;>rfl
theorem Ev{s:St}(h:Rel M B d up s ρ G a w)(x:Operand):cL G w ρ (cz d s.get x) (a.eval x)∧∀i∈dt (cz d s.get x),M i:=by
 cases x with
 |tmp t=>
  refine⟨?_,h.fZ _⟩
  have:=h.tm d t (Nat.le_refl _)
  simpa[qB,Act.eval,cz]using this
 |const v=>exact⟨aa_,λi hi=>by simp[cz,aa']at hi⟩
 |global g=>exact⟨trivial,λi hi=>by simp[cz,dt]at hi⟩
 |func f=>exact⟨rfl,λi hi=>by simp[cz,dt]at hi⟩
theorem dy.jc{k:Wk}{G1:Gh}(h:dy M B d up ρ G a w k G1)(x:Operand):cL G1 w ρ (cz d k.get x) (a.eval x)∧∀i∈dt (cz d k.get x),M i:=by
 have e:cz d k.get x=cz d (k.r.fw k.w).get x:=by
  cases x with
  |tmp t=>exact Wk.a_ _ _
  |_=>rfl
 rw[e];exact Ev h.rel x
theorem Wk.iB{k k':Wk}{x:SV}{y:Lf}{G1:Gh}{v:Value}(hk:dy M B d up ρ G a w k G1)(h:k.one x=some (k',y))(hd:k'.bJ S ρ)(hr:cL G1 w ρ x v):
  k.bJ S ρ∧k.e_ k'∧∃t,y.fN ρ=some t∧eP (er G1.ω) w t v:=by
 unfold Wk.one at h
 split at h
 ·obtain⟨e,he,hc,_⟩:=hr
  cases he
  exact⟨Wk.mZ h hd,Wk.dR h,Wk.lW h hd hc λid _=>hk.obj id⟩
 ·cases h
theorem eP.scalar{ω:Nat->Option Lb}{v u:Value}(h:eP ω w (.c v) u):u=v∧lr v=true:=by
 cases h with
 |c h=>exact⟨rfl,h⟩
theorem eP.rows{ω:Nat->Option Lb}{xs:List (List T)}{u:Value}(h:eP ω w (.l xs) u):∃b c,u=.slice b xs.length c∧(xs≠[]->xs.length<=c):=by
 cases h with
 |nil=>exact⟨_,_,rfl,λh=>absurd rfl h⟩
 |l _ hc=>exact⟨_,_,rfl,λ_=>hc⟩
end
section
variable {M:Nat->Prop} {B:eT} {d:Nat} {up:Nat->Nat->Value} {ρ:List T} {G:Gh} {a:Act} {w:World} {S:Nat->aB} {P:Program}
def b9(d:Nat)(o:Oper)(k:Wk)(v:SV):Wk:=match o.dst with|some n=>k.set (.t d n) v|none=>k
theorem tW{s:St}{k:Wk}{G1:Gh}(h:Rel M B d up s ρ G a w)(hk:dy M B d up ρ G a w k G1){o:Oper}(hn:∀n,o.dst=some n->n<a.tmps.size)
  {v:Value}(hx:(execOp a.eval o).run P w=.ok (.value v) w){x:SV}(hv:cL G1 w ρ x v)(hm:∀i∈dt x,M i)(Q:Exit->Act->World->Prop):
  bT P M B d up ρ a w s o (b9 d o k x).w Q:=by
 unfold b9
 cases ho:o.dst with
 |none=>exact aa9 h hk ho hx Q
 |some n=>exact aa8 h hk ho (hn n ho) hx hv hm Q
theorem R3{G1:Gh}{y:Lf}{t:T}{v:Value}(hy:y.fN ρ=some t)(hd:eP G1.q w t v)(ha:∀x,v≠.agg x):cL G1 w ρ (.v false [.p y]) v:=
 ⟨_,rfl,⟨t,hy,hd⟩,ha⟩
theorem FA{G1:Gh}{y:Lf}{v:Value}(hy:y.fN ρ=some (.c v))(hs:lr v=true):cL G1 w ρ (.v false [.p y]) v:=
 R3 hy (.c hs) λx hx=>by subst hx;simp[lr]at hs
theorem abb{op:BinOp}{t:TypeId}{x y:Operand}{u v r:Value}(h:jP op u v=some r):
  ((do eqGuard op t x y u v;binOp op t u v:Sem Value)).run P w=.ok r w∧lr r=true:=by
 cases u<;>cases v<;>simp only[jP]at h<;>try cases h
 ·rename_i k n k' m
  have hg:(eqGuard op t x y (.int k n) (.int k' m)).run P w=.ok () w:=by
   unfold eqGuard;split<;>rfl
  rw[Sem.run_bind,hg]
  cases op<;>simp only at h<;>(repeat' (split at h))<;>(try cases h)<;>
   simp_all[binOp,Op.intArith,Op.intDiv,Op.intCmp,Op.intBits,Op.shift,lr]<;>(intro asG;omega)
 ·rename_i s t'
  have hg:(eqGuard op t x y (.string s) (.string t')).run P w=.ok () w:=by
   unfold eqGuard;split<;>rfl
  rw[Sem.run_bind,hg]
  cases op<;>simp only at h<;>(try cases h)
  ·split at h
   ·rename_i hs
    cases h
    refine⟨?_,rfl⟩
    have:¬((s.size+t'.size:Nat):Int)>IntKind.i64.max:=by
     have:IntKind.i64.max=9223372036854775807:=by rfl
     simp only[wJ]at hs
     omega
    simp only[Result.andThen_ok,binOp,Op.stringOp,if_neg this,Sem.run_pure]
   ·cases h
  ·exact⟨rfl,rfl⟩
  ·exact⟨rfl,rfl⟩
theorem abd{op:BinOp}{t:TypeId}{x y:Operand}{u v r:Value}(ht:P.underlying t=some .bool)(h:JE op u v=some r):
  ((do eqGuard op t x y u v;binOp op t u v:Sem Value)).run P w=.ok r w∧lr r=true:=by
 cases u<;>cases v<;>simp only[JE]at h<;>try cases h
 rename_i p q
 have hg:(eqGuard op t x y (.bool p) (.bool q)).run P w=.ok () w:=by
  unfold eqGuard;split<;>rfl
 have he:(Op.equal t (.bool p) (.bool q)).run P w=.ok (p==q) w:=by
  have key:∀n,(Op.equalIn (n+1) t (.bool p) (.bool q)).run P w=.ok (p==q) w:=λn=>by
   simp only[Op.equalIn,Sem.run_bind,run_underlying ht,Result.andThen_ok,Sem.run_pure]
  exact key 9999
 rw[Sem.run_bind,hg]
 cases op<;>simp only at h<;>(try cases h)
 ·simp[binOp,he,lr]
 ·simp[binOp,he,lr]
theorem abe{op:UnOp}{u r:Value}(h:ZR op u=some r):(Op.unary op u).run P w=.ok r w∧lr r=true:=by
 cases u<;>simp only[ZR]at h<;>try cases h
 ·cases op<;>simp only at h<;>(try cases h)
  exact⟨rfl,rfl⟩
 ·cases op<;>simp only at h<;>(try cases h)
  exact⟨rfl,rfl⟩
theorem R4{k k1 k2:Wk}{G1:Gh}{c e:Ce}{x y:Lf}{u v:Value}{p:Prim}(hk:dy M B d up ρ G a w k G1)
  (h1:k.val c=some (k1,x))(h2:k1.val e=some (k2,y))(hd:(k2.em p [x,y]).1.bJ S ρ)(hc:gf G1 w ρ c u)(he:gf G1 w ρ e v):
  k.bJ S ρ∧dy M B d up ρ G a w (k2.em p [x,y]).1 G1∧(k2.em p [x,y]).1.ct.i=k.ct.i∧∃t t' r,eP (er G1.ω) w t u∧eP (er G1.ω) w t' v∧p.ev [t,t']=some r∧(k2.em p [x,y]).2.fN ρ=some r:=by
 obtain⟨qD,r,hr,m_⟩:=Wk.bV hd
 have eU:=hk.same (Wk.dR h1)
 have cO:=eU.same (Wk.dR h2)
 have fI:=Wk.mZ h2 qD
 obtain⟨t,ht,nA⟩:=Wk.lW h1 fI hc λid _=>hk.obj id
 obtain⟨t',j1,nH⟩:=Wk.lW h2 qD he λid _=>eU.obj id
 refine⟨Wk.mZ h1 fI,cO.same (Wk.bM _ _ _),?_,t,t',r,nA,nH,?_,m_⟩
 ·rw[(Wk.bM k2 p [x,y]).i,(Wk.dR h2).i,(Wk.dR h1).i]
 ·simpa[Lf.bU ht,Lf.bU j1]using hr
structure ew (P:Program) (cx:Cx):Prop where
 ty:∀t ti,cx.ty t=some ti->vE P t ti
variable {cx:Cx} {cV ft oi:Nat} {s:St} {R:List bD} {ct:Ct} {k':Wk} {o:Oper} {Q:Exit->Act->World->Prop}
theorem R5(h:Rel M B d up s ρ G a w)(hn:∀n,o.dst=some n->n<a.tmps.size){x:Operand}(ho:o.op=.move x∨o.op=.assign x)
  (hk:jm cx cV ft d o oi ⟨s.only R,[],ct,[]⟩=some k'):bT P M B d up ρ a w s o k'.w Q∧k'.ct.i=ct.i:=by
 have hw:=dy.start h R ct
 have hx:(execOp a.eval o).run P w=.ok (.value (a.eval x)) w:=by
  unfold execOp;rcases ho with ho|ho<;>rw[ho]<;>rfl
 have cO:some (b9 d o ⟨s.only R,[],ct,[]⟩ (cz d (Wk.get ⟨s.only R,[],ct,[]⟩) x))=some k':=by
  rw[<-hk];unfold jm b9;rcases ho with ho|ho<;>rw[ho]<;>rfl
 cases cO
 obtain⟨h1,h2⟩:=hw.jc x
 refine⟨tW h hw hn hx h1 h2 Q,?_⟩
 unfold b9;cases o.dst<;>rfl
theorem cX{k:Wk}{v:SV}:(b9 d o k v).bJ S ρ↔k.bJ S ρ:=by
 unfold b9;cases o.dst<;>rfl
theorem oL{k:Wk}{v:SV}:(b9 d o k v).ct=k.ct:=by
 unfold b9;cases o.dst<;>rfl
theorem abf(dW:ew P cx)(h:Rel M B d up s ρ G a w)(hn:∀n,o.dst=some n->n<a.tmps.size){op:BinOp}{t yt:TypeId}{x y:Operand}(ho:o.op=.binOp op t x y yt)
  {c e:Ce}(zS:cz d (Wk.get ⟨s.only R,[],ct,[]⟩) x=.v false [c])(FB:cz d (Wk.get ⟨s.only R,[],ct,[]⟩) y=.v false [e])
  (hk:jm cx cV ft d o oi ⟨s.only R,[],ct,[]⟩=some k')(hd:k'.bJ S ρ):bT P M B d up ρ a w s o k'.w Q∧k'.ct.i=ct.i:=by
 have hw:=dy.start h R ct
 simp only[jm,ho,zS,FB,cN]at hk
 obtain⟨ti,fQ,⟨k1,x1⟩,h1,⟨k2,y1⟩,h2,hk⟩:=hk
 have yQ:=(hw.jc x).1
 have JY:=(hw.jc y).1
 rw[zS]at yQ
 rw[FB]at JY
 obtain⟨_,qE,hc,_⟩:=yQ
 obtain⟨_,he1,he,_⟩:=JY
 cases qE
 cases he1
 simp only at hk
 have hT:=dW.ty _ _ fQ
 have fin:∀(p:Prim) (r:Value),(b9 d o (k2.em p [x1,y1]).1 (.v false [.p (k2.em p [x1,y1]).2]))=k'->(execOp a.eval o).run P w=.ok (.value r) w->lr r=true->
   (k2.em p [x1,y1]).2.fN ρ=some (.c r)->dy M B d up ρ G a w (k2.em p [x1,y1]).1 G->(k2.em p [x1,y1]).1.ct.i=ct.i->bT P M B d up ρ a w s o k'.w Q∧k'.ct.i=ct.i:=by
  intro p r hp hr hs hv wP hi
  subst hp
  refine⟨tW h wP hn hr (FA hv hs) (λi hi=>by simp[dt,dN]at hi) Q,?_⟩
  rw[oL];exact hi
 have hex:∀r,((do eqGuard op t x y (a.eval x) (a.eval y);binOp op t (a.eval x) (a.eval y):Sem Value)).run P w=.ok r w->(execOp a.eval o).run P w=.ok (.value r) w:=by
  intro r hr
  unfold execOp
  rw[ho]
  show Sem.run P (do let v <-(do eqGuard op t x y (a.eval x) (a.eval y);binOp op t (a.eval x) (a.eval y):Sem Value);pure (Next.value v)) w=_
  rw[Sem.run_bind,hr];rfl
 cases h4:Nat.beq ti.kd 4 with
 |true=>
  simp only[h4,cond_true,bF]at hk
  have lz:(k2.em (.bb op) [x1,y1]).1.bJ S ρ:=by
   have:(b9 d o (k2.em (.bb op) [x1,y1]).1 (.v false [.p (k2.em (.bb op) [x1,y1]).2])).bJ S ρ:=by rw[show b9 d o _ _=k' from hk];exact hd
   exact cX.1 this
  obtain⟨_,wP,hi,t1,t2,r,fI,qD,hp,hv⟩:=R4 hw h1 h2 lz hc he
  cases t1 with
  |l _=>simp[Prim.ev,T.val]at hp
  |c u=>
   cases t2 with
   |l _=>simp[Prim.ev,T.val]at hp
   |c v=>
    obtain⟨e1,_⟩:=fI.scalar
    obtain⟨e2,_⟩:=qD.scalar
    simp only[Prim.ev,T.val,Option.bind_some,cN,bF]at hp
    obtain⟨r',hb,rfl⟩:=hp
    obtain⟨hr,hs⟩:=abd (P:=P) (w:=w) (t:=t) (x:=x) (y:=y) (hT.bo (dU h4)) hb
    exact fin _ r' hk (hex r' (by rw[e1,e2];exact hr)) hs hv wP hi
 |false=>
  simp only[h4,cond_false]at hk
  cases h5:(Nat.beq ti.kd 1||Nat.beq ti.kd 2)with
  |false=>simp[h5]at hk
  |true=>
   simp only[h5,cond_true,bF]at hk
   have lz:(k2.em (.bin op) [x1,y1]).1.bJ S ρ:=by
    have:(b9 d o (k2.em (.bin op) [x1,y1]).1 (.v false [.p (k2.em (.bin op) [x1,y1]).2])).bJ S ρ:=by rw[show b9 d o _ _=k' from hk];exact hd
    exact cX.1 this
   obtain⟨_,wP,hi,t1,t2,r,fI,qD,hp,hv⟩:=R4 hw h1 h2 lz hc he
   cases t1 with
   |l _=>simp[Prim.ev,T.val]at hp
   |c u=>
    cases t2 with
    |l _=>simp[Prim.ev,T.val]at hp
    |c v=>
     obtain⟨e1,_⟩:=fI.scalar
     obtain⟨e2,_⟩:=qD.scalar
     simp only[Prim.ev,T.val,Option.bind_some,cN,bF]at hp
     obtain⟨r',hb,rfl⟩:=hp
     obtain⟨hr,hs⟩:=abb (P:=P) (w:=w) (t:=t) (x:=x) (y:=y) hb
     exact fin _ r' hk (hex r' (by rw[e1,e2];exact hr)) hs hv wP hi
end
section
variable {M:Nat->Prop} {B:eT} {d:Nat} {up:Nat->Nat->Value} {ρ:List T} {G:Gh} {a:Act} {w:World} {S:Nat->aB} {P:Program}
variable {cx:Cx} {cV ft oi:Nat} {s:St} {R:List bD} {ct:Ct} {k':Wk} {o:Oper} {Q:Exit->Act->World->Prop}
theorem CA(h:Rel M B d up s ρ G a w)(hn:∀n,o.dst=some n->n<a.tmps.size){k k1:Wk}{G1:Gh}(hk:dy M B d up ρ G a w k G1){x:SV}{v:Value}{y:Lf}{p:Prim}
  (h1:k.one x=some (k1,y))(hr:cL G1 w ρ x v)(hd:(b9 d o (k1.em p [y]).1 (.v false [.p (k1.em p [y]).2])).bJ S ρ)
  (hx:∀t r,eP (er G1.ω) w t v->p.ev [t]=some r->∃u,r=.c u∧lr u=true∧(execOp a.eval o).run P w=.ok (.value u) w):
  bT P M B d up ρ a w s o (b9 d o (k1.em p [y]).1 (.v false [.p (k1.em p [y]).2])).w Q∧(b9 d o (k1.em p [y]).1 (.v false [.p (k1.em p [y]).2])).ct.i=k.ct.i:=by
 have lz:=cX.1 hd
 obtain⟨fI,r,qF,hv⟩:=Wk.bV lz
 obtain⟨_,hs,t,ht,nA⟩:=Wk.iB hk h1 fI hr
 obtain⟨u,rfl,hsu,eV⟩:=hx t r nA (by simpa[Lf.bU ht]using qF)
 refine⟨tW h ((hk.same hs).same (Wk.bM _ _ _)) hn eV (FA hv hsu) (λi hi=>by simp[dt,dN]at hi) Q,?_⟩
 rw[oL,(Wk.bM k1 p [y]).i,hs.i]
theorem R6(h:Rel M B d up s ρ G a w)(hn:∀n,o.dst=some n->n<a.tmps.size){k k1 k2:Wk}{G1:Gh}(hk:dy M B d up ρ G a w k G1){x x':SV}{v v':Value}{y y':Lf}{p:Prim}
  (h1:k.one x=some (k1,y))(h2:k1.one x'=some (k2,y'))(hr:cL G1 w ρ x v)(km:cL G1 w ρ x' v')(hd:(b9 d o (k2.em p [y,y']).1 (.v false [.p (k2.em p [y,y']).2])).bJ S ρ)
  (hx:∀t t' r,eP (er G1.ω) w t v->eP (er G1.ω) w t' v'->p.ev [t,t']=some r->∃u,r=.c u∧lr u=true∧(execOp a.eval o).run P w=.ok (.value u) w):
  bT P M B d up ρ a w s o (b9 d o (k2.em p [y,y']).1 (.v false [.p (k2.em p [y,y']).2])).w Q∧(b9 d o (k2.em p [y,y']).1 (.v false [.p (k2.em p [y,y']).2])).ct.i=k.ct.i:=by
 have lz:=cX.1 hd
 obtain⟨qD,r,qF,hv⟩:=Wk.bV lz
 have nB:k.e_ k1:=by
  unfold Wk.one at h1;split at h1
  ·exact Wk.dR h1
  ·cases h1
 obtain⟨fI,nr,t',j1,nH⟩:=Wk.iB (hk.same nB) h2 qD km
 obtain⟨_,_,t,ht,nA⟩:=Wk.iB hk h1 fI hr
 obtain⟨u,rfl,hsu,eV⟩:=hx t t' r nA nH (by simpa[Lf.bU ht,Lf.bU j1]using qF)
 refine⟨tW h (((hk.same nB).same nr).same (Wk.bM _ _ _)) hn eV (FA hv hsu) (λi hi=>by simp[dt,dN]at hi) Q,?_⟩
 rw[oL,(Wk.bM k2 p [y,y']).i,nr.i,nB.i]
theorem abi(h:Rel M B d up s ρ G a w)(hn:∀n,o.dst=some n->n<a.tmps.size){op:UnOp}{t:TypeId}{x:Operand}(ho:o.op=.unOp op t x)
  (hk:jm cx cV ft d o oi ⟨s.only R,[],ct,[]⟩=some k')(hd:k'.bJ S ρ):bT P M B d up ρ a w s o k'.w Q∧k'.ct.i=ct.i:=by
 have hw:=dy.start h R ct
 simp only[jm,ho,cN,bF]at hk
 obtain⟨⟨k1,y⟩,h1,hk⟩:=hk
 subst hk
 refine CA h hn hw h1 (hw.jc x).1 hd λt r nA hr=>?_
 cases t with
 |l _=>simp[Prim.ev,T.val]at hr
 |c u=>
  obtain⟨e,_⟩:=nA.scalar
  simp only[Prim.ev,T.val,Option.bind_some,cN,bF]at hr
  obtain⟨r',hb,rfl⟩:=hr
  obtain⟨eV,hs⟩:=abe (P:=P) (w:=w) hb
  refine⟨r',rfl,hs,?_⟩
  unfold execOp;rw[ho]
  show Sem.run P (do let v <-Op.unary op (a.eval x);pure (Next.value v)) w=_
  rw[e,Sem.run_bind,eV];rfl
theorem abj(ns:List Int):∀s:ByteArray,ns.foldl (λr n=>r.push (UInt8.ofNat n.toNat)) s=⟨s.data++(ns.map λn=>UInt8.ofNat n.toNat).toArray⟩:=by
 induction ns with
 |nil=>intro s;simp
 |cons n ns ih=>intro s;rw[List.foldl_cons,ih];simp[ByteArray.push]
theorem abk(ns:List Int):ns.foldl (λr n=>r.push (UInt8.ofNat n.toNat)) ByteArray.empty=Cd ns:=by
 rw[abj];unfold Cd;congr 1;exact Array.empty_append
theorem R7:∀{xs:List (List T)} {ns:List Int},zC xs=some ns->ns.length=xs.length∧∀(j:Nat) (n:Int),ns[j]?=some n->xs[j]?=some [T.c (.int .u8 n)]
 | [],ns,h=>by
  simp only[zC,bF]at h
  subst h
  exact⟨rfl,λj n h=>by simp at h⟩
 |r::rs,ns,h=>by
  simp only[zC,cN,bF]at h
  obtain⟨n,h1,ns',h2,rfl⟩:=h
  obtain⟨g1,g2⟩:=R7 h2
  refine⟨by simp[g1],λj m hj=>?_⟩
  cases j with
  |zero=>
   simp only[List.getElem?_cons_zero,bF]at hj⊢
   subst hj
   unfold RM at h1
   split at h1
   ·cases h1;rfl
   ·cases h1
  |succ j=>simpa using g2 j m (by simpa using hj)
theorem abl{ω:Nat->Option Lb}{xs:List (List T)}{v:Value}{ns:List Int}(h:eP ω w (.l xs) v)(hb:zC xs=some ns):(Conv.bytesToString v).run P w=.ok (.string (Cd ns)) w:=by
 obtain⟨hlen,bN⟩:=R7 hb
 rw[<-abk]
 cases h with
 |nil=>
  have:ns=[]:=List.eq_nil_of_length_eq_zero hlen
  subst this
  rename_i a0 cap
  cases a0 with
  |none=>simp[Conv.bytesToString,Sem.run_pure]
  |some b=>exact run_bytesToString w b 0 cap [] (run_loadCells_list w b [] λj v hj=>by simp at hj)
 |l hw hc hn bE h1 h2=>
  rename_i b off wd cap cv
  refine run_bytesToString w _ _ _ ns ?_
  rw[<-hlen,<-List.length_map (f:=Value.int .u8)]
  refine run_loadCells_list w _ _ λj v hj=>?_
  rw[List.getElem?_map,Option.map_eq_some_iff]at hj
  obtain⟨n,hj,rfl⟩:=hj
  have hx:=bN j n hj
  have sA:wd=1:=by
   have:=hw _ (List.mem_of_getElem? hx)
   simpa using this.symm
  subst sA
  have h3:dP xs j 0=some (.c (.int .u8 n)):=by simp[dP,hx]
  have h5:=h1 j 0 _ h3
  rw[(h2 j 0 _ h3).scalar.1]at h5
  rw[Addr.add_lit,show off+j=off+(j*1+0) by omega]
  exact h5
theorem abm(dW:ew P cx)(h:Rel M B d up s ρ G a w)(hn:∀n,o.dst=some n->n<a.tmps.size){t1 t2:TypeId}{x:Operand}(ho:o.op=.convert t1 t2 x)
  (hk:jm cx cV ft d o oi ⟨s.only R,[],ct,[]⟩=some k')(hd:k'.bJ S ρ):bT P M B d up ρ a w s o k'.w Q∧k'.ct.i=ct.i:=by
 have hw:=dy.start h R ct
 simp only[jm,ho,cN]at hk
 obtain⟨si,R8,ti,fQ,⟨k1,y⟩,h1,hk⟩:=hk
 split at hk
 ·rename_i kk z hz
  cases hb:(Nat.beq ti.kd 1&&Nat.beq si.kd 1)with
  |false=>rw[hb]at hk;cases hk
  |true=>
   rw[hb]at hk
   simp only[cond_true,bF]at hk
   subst hk
   rw[bI]at hb
   have zU:=(dW.ty _ _ fQ).ik (dU hb.1) kk z hz
   obtain⟨k0,PY⟩:=(dW.ty _ _ R8).it (dU hb.2)
   refine CA h hn hw h1 (hw.jc x).1 hd λt r nA hr=>?_
   cases t with
   |l _=>simp[Prim.ev]at hr
   |c u=>
    obtain⟨e,_⟩:=nA.scalar
    cases u<;>simp only[Prim.ev,bF]at hr<;>try cases hr
    rename_i k3 n oM
    refine⟨_,rfl,rfl,?_⟩
    unfold execOp;rw[ho]
    show Sem.run P (do let v <-convert t1 t2 (a.eval x);pure (Next.value v)) w=_
    rw[e,Sem.run_bind]
    have:(convert t1 t2 (.int k3 n)).run P w=.ok (.int kk (kk.wrap n)) w:=by
     unfold convert
     simp only[Sem.run_bind,run_underlying PY,run_underlying zU,Result.andThen_ok]
     rfl
    rw[this];rfl
 ·rename_i z hz
  cases hb:(Nat.beq ti.kd 2&&Nat.beq si.kd 3)with
  |false=>rw[hb]at hk;cases hk
  |true=>
   rw[hb]at hk
   simp only[cond_true,cN]at hk
   obtain⟨te,tX,hk⟩:=hk
   split at hk
   ·rename_i z2 qG
    cases qS:Nat.beq te.kd 1 with
    |false=>rw[qS]at hk;cases hk
    |true=>
     rw[qS]at hk
     simp only[cond_true,bF]at hk
     subst hk
     rw[bI]at hb
     have PY:=(dW.ty _ _ R8).sl (dU hb.2)
     have zU:=(dW.ty _ _ fQ).st (dU hb.1)
     have hu3:=(dW.ty _ _ tX).ik (dU qS) .u8 z2 qG
     refine CA h hn hw h1 (hw.jc x).1 hd λt r nA hr=>?_
     cases t with
     |c u=>simp[Prim.ev]at hr
     |l xs=>
      simp only[Prim.ev,cN,bF]at hr
      obtain⟨ns,hns,rfl⟩:=hr
      refine⟨_,rfl,rfl,?_⟩
      unfold execOp;rw[ho]
      show Sem.run P (do let v <-convert t1 t2 (a.eval x);pure (Next.value v)) w=_
      rw[Sem.run_bind]
      obtain⟨b,c,e,_⟩:=nA.rows
      have:(convert t1 t2 (a.eval x)).run P w=.ok (.string (Cd ns)) w:=by
       have h0:=abl (P:=P) nA hns
       rw[e]at h0⊢
       rw[run_convert_bytes_string w t1 t2 si.el b xs.length c PY hu3 zU]
       exact h0
      rw[this];rfl
   ·cases hk
 ·cases hk
theorem JZ{x:Sem Value}{v:Value}(h:x.run P w=.ok v w):(do let v <-x;pure (Next.value v):Sem Next).run P w=.ok (.value v) w:=by
 rw[Sem.run_bind,h];rfl
theorem R9{c:Call}{b:Builtin}(ho:o.op=.call c)(hc:c.callee=.builtin b){r:Result Next}
  (h:(builtin b c.argTypes o.type (c.args.map λ | .const _=>true|_=>false) (c.args.map a.eval)).run P w=r):(execOp a.eval o).run P w=r:=by
 unfold execOp
 rw[ho]
 show Sem.run P (do let d <-resolve a.eval c o.type;invoke d.target d.args) w=r
 simp only[resolve,hc]
 exact h
theorem abo(h:Rel M B d up s ρ G a w)(hn:∀n,o.dst=some n->n<a.tmps.size)(dW:ew P cx){c:Call}{x:Operand}(ho:o.op=.call c)(hc:c.callee=.builtin .len)(fi:c.args.toList=[x])
  {ti:TI}(ht:(c.argTypes[0]?).bind cx.ty=some ti)(sB:ti.kd=3){k k1:Wk}{G1:Gh}{y:Lf}(hw:dy M B d up ρ G a w k G1)
  (h1:k.one (cz d k.get x)=some (k1,y))(hd:(b9 d o (k1.em .len [y]).1 (.v false [.p (k1.em .len [y]).2])).bJ S ρ):
  bT P M B d up ρ a w s o (b9 d o (k1.em .len [y]).1 (.v false [.p (k1.em .len [y]).2])).w Q∧(b9 d o (k1.em .len [y]).1 (.v false [.p (k1.em .len [y]).2])).ct.i=k.ct.i:=by
 refine CA h hn hw h1 (hw.jc x).1 hd λt r nA hr=>?_
 have hA:c.args=#[x]:=Array.ext' fi
 cases J0:c.argTypes[0]? with
 |none=>simp[J0]at ht
 |some tt=>
  have hT:=dW.ty tt ti (by simpa[J0]using ht)
  have hu:=hT.sl sB
  cases t with
  |l xs=>
   obtain⟨b,cap,e,_⟩:=nA.rows
   simp only[Prim.ev,bF]at hr
   subst hr
   refine⟨_,rfl,rfl,R9 ho hc ?_⟩
   rw[hA]
   refine JZ ?_
   simp[e,Builtin.len_,J0,run_underlying hu,goInt]
  |c v=>simp[Prim.ev]at hr
theorem abp(h:Rel M B d up s ρ G a w)(hn:∀n,o.dst=some n->n<a.tmps.size)(dW:ew P cx){c:Call}{x:Operand}(ho:o.op=.call c)(hc:c.callee=.builtin .len)(fi:c.args.toList=[x])
  {ti:TI}(ht:(c.argTypes[0]?).bind cx.ty=some ti)(sB:ti.kd=2){k k1:Wk}{G1:Gh}{y:Lf}(hw:dy M B d up ρ G a w k G1)
  (h1:k.one (cz d k.get x)=some (k1,y))(hd:(b9 d o (k1.em .lens [y]).1 (.v false [.p (k1.em .lens [y]).2])).bJ S ρ):
  bT P M B d up ρ a w s o (b9 d o (k1.em .lens [y]).1 (.v false [.p (k1.em .lens [y]).2])).w Q∧(b9 d o (k1.em .lens [y]).1 (.v false [.p (k1.em .lens [y]).2])).ct.i=k.ct.i:=by
 refine CA h hn hw h1 (hw.jc x).1 hd λt r nA hr=>?_
 have hA:c.args=#[x]:=Array.ext' fi
 cases J0:c.argTypes[0]? with
 |none=>simp[J0]at ht
 |some tt=>
  have hT:=dW.ty tt ti (by simpa[J0]using ht)
  have hu:=hT.st sB
  cases t with
  |l xs=>simp[Prim.ev]at hr
  |c v=>
   obtain⟨e,hs⟩:=nA.scalar
   cases v with
   |string str=>
    simp only[Prim.ev,bF]at hr
    subst hr
    refine⟨_,rfl,rfl,R9 ho hc ?_⟩
    rw[hA]
    refine JZ ?_
    simp[e,Builtin.len_,J0,run_underlying hu,goInt]
   |_=>simp[Prim.ev]at hr
theorem R_(h:Rel M B d up s ρ G a w)(hn:∀n,o.dst=some n->n<a.tmps.size){c:Call}{x x':Operand}(ho:o.op=.call c)(fi:c.args.toList=[x,x'])
  {p:Prim}(hc:c.callee=.builtin .max∧p=.mx∨c.callee=.builtin .min∧p=.mn){k k1 k2:Wk}{G1:Gh}{y y':Lf}(hw:dy M B d up ρ G a w k G1)
  (h1:k.one (cz d k.get x)=some (k1,y))(h2:k1.one (cz d k.get x')=some (k2,y'))(hd:(b9 d o (k2.em p [y,y']).1 (.v false [.p (k2.em p [y,y']).2])).bJ S ρ):
  bT P M B d up ρ a w s o (b9 d o (k2.em p [y,y']).1 (.v false [.p (k2.em p [y,y']).2])).w Q∧(b9 d o (k2.em p [y,y']).1 (.v false [.p (k2.em p [y,y']).2])).ct.i=k.ct.i:=by
 refine R6 h hn hw h1 h2 (hw.jc x).1 (hw.jc x').1 hd λt t' r nA nH hr=>?_
 have hA:c.args=#[x,x']:=Array.ext' fi
 cases t with
 |l _=>rcases hc with⟨_,rfl⟩|⟨_,rfl⟩<;>simp[Prim.ev]at hr
 |c u=>
  cases t' with
  |l _=>rcases hc with⟨_,rfl⟩|⟨_,rfl⟩<;>cases u<;>simp[Prim.ev]at hr
  |c u'=>
   obtain⟨e,_⟩:=nA.scalar
   obtain⟨e',_⟩:=nH.scalar
   cases u<;>cases u'<;>rcases hc with⟨hc,rfl⟩|⟨hc,rfl⟩<;>simp only[Prim.ev,bF]at hr<;>try cases hr
   ·exact⟨_,rfl,rfl,R9 ho hc (by rw[hA];simp[builtin,Builtin.max_,Builtin.max2,e,e'])⟩
   ·exact⟨_,rfl,rfl,R9 ho hc (by rw[hA];simp[builtin,Builtin.min_,Builtin.min2,e,e'])⟩
theorem Ew{x:Sem Value}{v:Value}(he:execOp a.eval o=(do let v <-x;pure (Next.value v)))(h:x.run P w=.ok v w):(execOp a.eval o).run P w=.ok (.value v) w:=by
 rw[he];exact JZ h
theorem abq(h:Rel M B d up s ρ G a w)(hn:∀n,o.dst=some n->n<a.tmps.size){x x':Operand}{t:TypeId}(ho:o.op=.index t x x')(dW:ew P cx){ti:TI}(ht:cx.ty t=some ti)(sB:ti.kd=2)
  {k k1 k2:Wk}{G1:Gh}{y y':Lf}(hw:dy M B d up ρ G a w k G1)
  (h1:k.one (cz d k.get x)=some (k1,y))(h2:k1.one (cz d k.get x')=some (k2,y'))(hd:(b9 d o (k2.em .idx [y,y']).1 (.v false [.p (k2.em .idx [y,y']).2])).bJ S ρ):
  bT P M B d up ρ a w s o (b9 d o (k2.em .idx [y,y']).1 (.v false [.p (k2.em .idx [y,y']).2])).w Q∧(b9 d o (k2.em .idx [y,y']).1 (.v false [.p (k2.em .idx [y,y']).2])).ct.i=k.ct.i:=by
 refine R6 h hn hw h1 h2 (hw.jc x).1 (hw.jc x').1 hd λt1 t2 r nA nH hr=>?_
 have hu:=(dW.ty _ _ ht).st sB
 cases t1 with
 |l _=>cases t2<;>simp[Prim.ev]at hr
 |c u=>
  cases t2 with
  |l _=>cases u<;>simp[Prim.ev]at hr
  |c u'=>
   obtain⟨e,_⟩:=nA.scalar
   obtain⟨e',_⟩:=nH.scalar
   cases u with
   |string str=>
    cases u' with
    |int kk n=>
     simp only[Prim.ev]at hr
     split at hr
     ·rename_i h0
      split at hr
      ·rename_i bE
       simp only[bF]at hr
       subst hr
       refine⟨_,rfl,rfl,Ew (x:=Instr.index t (a.eval x) (a.eval x')) (by unfold execOp;rw[ho]) ?_⟩
       have hg:str[n.toNat]?=some (str.get n.toNat bE):=by
        simp[getElem?_pos,bE];rfl
       simp[Instr.index,e,e',asIntOf,run_underlying hu,h0,hg]
      ·cases hr
     ·cases hr
    |_=>simp[Prim.ev]at hr
   |_=>cases u'<;>simp[Prim.ev]at hr
theorem abr(h:Rel M B d up s ρ G a w)(hn:∀n,o.dst=some n->n<a.tmps.size){x:Operand}(ho:o.op=.nilCheck x)
  (hk:jm cx cV ft d o oi ⟨s.only R,[],ct,[]⟩=some k'):bT P M B d up ρ a w s o k'.w Q∧k'.ct.i=ct.i:=by
 have hw:=dy.start h R ct
 obtain⟨hr,hm⟩:=hw.jc x
 have key:∀(v:SV) (ad:Addr),cz d (Wk.get ⟨s.only R,[],ct,[]⟩) x=v->a.eval x=.pointer (some ad)->some (b9 d o ⟨s.only R,[],ct,[]⟩ v)=some k'->bT P M B d up ρ a w s o k'.w Q∧k'.ct.i=ct.i:=by
  intro v ad hv he hk
  cases hk
  refine⟨tW h hw hn (v:=.pointer (some ad)) ?_ (by rw[<-he,<-hv];exact hr) (by rw[<-hv];exact hm) Q,by rw[oL]⟩
  unfold execOp
  rw[ho]
  show Sem.run P (match a.eval x with| .pointer none| .nilIface| .nilFunc=>runtimePanic .nilDeref| .func (.method name) first captured=>_|x=>pure (Next.value x)) w=_
  rw[he];rfl
 simp only[jm,ho]at hk
 split at hk
 ·rename_i bx off hv
  rw[hv]at hr
  exact key _ _ hv hr hk
 ·rename_i id q ix wd off hv
  rw[hv]at hr
  obtain⟨p,b,n,cap,i,_,_,_,_,he⟩:=hr
  exact key _ _ hv he hk
 ·rename_i s' ix wd off hv
  rw[hv]at hr
  obtain⟨xs,i,r,b,base,_,_,_,he,_⟩:=hr
  exact key _ _ hv he hk
 ·cases hk
theorem abt(h:Rel M B d up s ρ G a w)(hn:∀n,o.dst=some n->n<a.tmps.size){x:Operand}{i:Nat}(ho:o.op=.extract x i)
  (hk:jm cx cV ft d o oi ⟨s.only R,[],ct,[]⟩=some k'):bT P M B d up ρ a w s o k'.w Q∧k'.ct.i=ct.i:=by
 have hw:=dy.start h R ct
 obtain⟨hr,hm⟩:=hw.jc x
 simp only[jm,ho]at hk
 split at hk
 ·rename_i vs hv
  rw[hv]at hr hm
  simp only[cN,bF]at hk
  obtain⟨u,hu,hk⟩:=hk
  have cO:b9 d o ⟨s.only R,[],ct,[]⟩ (.v u.1 u.2)=k':=hk
  subst cO
  obtain⟨us,he,qT⟩:=hr
  have main:∀(vs:List (Bool×List Ce)) (us:List Value) (i:Nat) (u:Bool×List Ce),gD G w ρ vs us->vs[i]?=some u->
    ∃v,us[i]?=some v∧fh G w ρ u.1 u.2 v∧∀j∈dN u.2,j∈tS vs:=by
   intro vs
   induction vs with
   |nil=>intro us i u _ hi;simp at hi
   |cons y vs ih=>
    intro us i u hr hi
    cases us with
    |nil=>exact hr.elim
    |cons z us=>
     cases i with
     |zero=>simp at hi;subst hi;exact⟨z,rfl,hr.1,λj hj=>by simp[tS,hj]⟩
     |succ i=>
      obtain⟨v,h1,h2,h3⟩:=ih us i u hr.2 (by simpa using hi)
      exact⟨v,by simpa using h1,h2,λj hj=>by simp[tS,h3 j hj]⟩
  obtain⟨v,h1,h2,h3⟩:=main vs us i u qT hu
  refine⟨tW h hw hn (v:=v) (x:=.v u.1 u.2) (Ew (x:=Instr.extract (a.eval x) i) (by unfold execOp;rw[ho]) ?_) h2 (λj hj=>hm j (h3 j hj)) Q,by rw[oL]⟩
  rw[he]
  simp[Instr.extract,h1]
 ·cases hk
theorem abu(dW:ew P cx)(h:Rel M B d up s ρ G a w)(hn:∀n,o.dst=some n->n<a.tmps.size){x:Operand}{t f:Nat}(ho:o.op=.fieldAddr t x f)
  (hk:jm cx cV ft d o oi ⟨s.only R,[],ct,[]⟩=some k'):bT P M B d up ρ a w s o k'.w Q∧k'.ct.i=ct.i:=by
 have hw:=dy.start h R ct
 obtain⟨hr,hm⟩:=hw.jc x
 simp only[jm,ho,cN,bF]at hk
 obtain⟨v,hv,hk⟩:=hk
 have cO:b9 d o ⟨s.only R,[],ct,[]⟩ v=k':=hk
 subst cO
 have run:∀(ti:TI) (of:Nat×Nat) (b oo:Nat),cx.ty t=some ti->ti.fs[f]?=some of->a.eval x=.pointer (some ⟨b,oo,none⟩)->
   (execOp a.eval o).run P w=.ok (.value (.pointer (some ⟨b,oo+of.1,none⟩))) w:=by
  intro ti of b oo fQ hf he
  obtain⟨fs,Bn,i,h1,h2,h3,h4,h5,_⟩:=(dW.ty _ _ fQ).fs f of hf
  refine Ew (x:=Instr.fieldAt t (a.eval x) f) (by unfold execOp;rw[ho]) ?_
  simp[Instr.fieldAt,run_underlying h1,h2,he,Instr.sureAddr,fieldPlace,sizeOf,typeInfo,h4,h5,h3,Addr.add_lit]
 unfold fieldAt at hv
 split at hv
 ·rename_i bx off eD
  rw[eD]at hr hm
  simp only[cN,bF]at hv
  obtain⟨ti,fQ,of,hf,rfl⟩:=hv
  exact⟨tW h hw hn (x:=.pt bx (off+of.1)) (run ti of _ _ fQ hf hr) rfl hm Q,by rw[oL]⟩
 ·rename_i id q ix wd off eD
  rw[eD]at hr hm
  simp only[cN,bF]at hv
  obtain⟨ti,fQ,of,hf,rfl⟩:=hv
  obtain⟨p,b,n,cap,i,h1,h2,h3,h4,he⟩:=hr
  exact⟨tW h hw hn (x:=.ep id q ix wd (off+of.1)) (run ti of _ _ fQ hf he) ⟨p,b,n,cap,i,h1,h2,h3,h4,by rw[Nat.add_assoc]⟩ hm Q,by rw[oL]⟩
 ·rename_i s' ix wd off eD
  rw[eD]at hr hm
  simp only[cN,bF]at hv
  obtain⟨ti,fQ,of,hf,rfl⟩:=hv
  obtain⟨xs,i,r,b,base,h1,h2,h3,he,h5⟩:=hr
  exact⟨tW h hw hn (x:=.fp s' ix wd (off+of.1)) (run ti of _ _ fQ hf he) ⟨xs,i,r,b,base,h1,h2,h3,by rw[Nat.add_assoc],h5⟩ hm Q,by rw[oL]⟩
 ·cases hv
theorem eP.one{ω:Nat->Option Lb}{t:T}{v:Value}(h:eP ω w t v):v.oneCell'=true:=by
 cases h with
 |c h=>cases v<;>simp_all[lr,Value.oneCell']
 |nil=>rfl
 |l=>rfl
theorem gf.one{e:Ce}{v:Value}(h:gf G w ρ e v):v.oneCell'=true:=by
 cases e with
 |p x=>obtain⟨t,_,h⟩:=h;exact h.one
 |o id q=>obtain⟨p,_,rfl⟩:=h;obtain⟨x,n,c,h⟩:=G.hs id p;rw[h];rfl
 |n=>cases h;rfl
 |d=>exact h
theorem abv{v:Value}(h:v.oneCell'=true):∀x,v≠.agg x:=λx e=>by subst e;cases h
theorem bn.length:∀{cs:List Ce} {vs:List Value},bn G w ρ cs vs->cs.length=vs.length
 | [],[],_=>rfl
 | [],_::_,h=>h.elim
 |_::_,[],h=>h.elim
 |_::cs,_::vs,h=>by simp[bn.length h.2]
theorem bn.drop:∀{cs:List Ce} {vs:List Value} (n:Nat),bn G w ρ cs vs->bn G w ρ (cs.drop n) (vs.drop n)
 |_,_,0,h=>h
 | [],[],n+1,_=>trivial
 | [],_::_,_,h=>h.elim
 |_::_,[],_,h=>h.elim
 |_::cs,_::vs,n+1,h=>bn.drop n h.2
theorem bn.take:∀{cs:List Ce} {vs:List Value} (n:Nat),bn G w ρ cs vs->bn G w ρ (cs.take n) (vs.take n)
 |_,_,0,h=>trivial
 | [],[],n+1,_=>trivial
 | [],_::_,_,h=>h.elim
 |_::_,[],_,h=>h.elim
 |_::cs,_::vs,n+1,h=>⟨h.1,bn.take n h.2⟩
theorem bn.one:∀{cs:List Ce} {vs:List Value},bn G w ρ cs vs->∀v∈vs,v.oneCell'=true
 | [],[],_,v,hv=>by cases hv
 | [],_::_,h,_,_=>h.elim
 |_::_,[],h,_,_=>h.elim
 |_::cs,_::vs,h,v,hv=>by
  cases hv with
  |head=>exact h.1.one
  |tail _ hv=>exact bn.one h.2 v hv
theorem J1(cs:List Ce)(n:Nat):∀i∈dN (cs.drop n),i∈dN cs:=by
 induction cs generalizing n with
 |nil=>intro i hi;simp at hi;exact hi
 |cons c cs ih=>
  intro i hi
  cases n with
  |zero=>exact hi
  |succ n=>rw[zN];exact List.mem_append_right _ (ih n i (by simpa using hi))
theorem J2(cs:List Ce)(n:Nat):∀i∈dN (cs.take n),i∈dN cs:=by
 induction cs generalizing n with
 |nil=>intro i hi;simp at hi;exact hi
 |cons c cs ih=>
  intro i hi
  cases n with
  |zero=>simp[dN]at hi
  |succ n=>
   rw[List.take_succ_cons,zN]at hi
   rw[zN]
   rcases List.mem_append.1 hi with hi|hi
   ·exact List.mem_append_left _ hi
   ·exact List.mem_append_right _ (ih n i hi)
theorem CB{t:Nat}{ti:TI}(hT:vE P t ti){b off:Nat}{vs:List Value}(hl:vs.length=ti.sz)
  (hc:∀j v,vs[j]?=some v->w.cell? ⟨b,off+j,none⟩=some v):
  (Instr.loadAt t (.pointer (some ⟨b,off,none⟩))).run P w=.ok (if ti.ag then .agg vs.toArray else vs.getD 0 undef) w:=by
 obtain⟨i,z,hi,hs,_,_,_⟩:=hT.info
 obtain⟨u,hu,pu,zV⟩:=hT.ag
 have tY:(loadCells ⟨b,off,none⟩ vs.length).run P w=.ok vs.toArray w:=
  run_loadCells_list w _ vs λj v hj=>by rw[Addr.add_lit];exact hc j v hj
 cases hb:ti.ag with
 |true=>
  obtain⟨fs,rfl⟩:=pu.1 hb
  simp[Instr.loadAt,Instr.sureAddr,loadVar,isAgg,run_underlying hu,sizeOf,typeInfo,hi,hs,<-hl,tY]
 |false=>
  have h1:=hT.one hb
  obtain⟨v,rfl⟩:∃v,vs=[v]:=by
   cases vs with
   |nil=>simp at hl;omega
   |cons v vs=>cases vs with
    |nil=>exact⟨v,rfl⟩
    |cons _ _=>simp at hl;omega
  have IL:=hc 0 v rfl
  have FC:(isAgg t).run P w=.ok false w:=by
   simp only[isAgg,Sem.run_bind,run_underlying hu,Result.andThen_ok]
   cases u with
   |struct fs=>have:=pu.2 ⟨fs,rfl⟩;rw[hb]at this;cases this
   |array n e=>exact absurd rfl (zV n e)
   |_=>rfl
  simp only[Nat.add_zero]at IL
  simp[Instr.loadAt,Instr.sureAddr,loadVar,FC,IL]
theorem CC{ti:TI}{t:Nat}(hT:vE P t ti){G1:Gh}{cs:List Ce}{vs:List Value}(h:bn G1 w ρ cs vs)(hl:vs.length=ti.sz):
  cL G1 w ρ (.v ti.ag cs) (if ti.ag then .agg vs.toArray else vs.getD 0 undef):=by
 cases hb:ti.ag with
 |true=>exact⟨vs,rfl,h⟩
 |false=>
  have h1:=hT.one hb
  cases vs with
  |nil=>simp at hl;omega
  |cons v vs=>cases vs with
   |cons _ _=>simp at hl;omega
   |nil=>cases cs with
    |nil=>exact h.elim
    |cons c cs=>cases cs with
     |cons _ _=>exact h.2.elim
     |nil=>exact⟨c,rfl,h.1,abv h.1.one⟩
theorem R'{x ix:Lf}{xs:List (List T)}{i:Nat}(hx:x.fN ρ=some (.l xs))(hi:mY ρ ix=some i):wK (x.ev ρ) (ix.ev ρ)=xs[i]?:=by
 obtain⟨k,hk⟩:=zO hi
 rw[Lf.bU hx,hk,Cv]
theorem Wk.rK:∀(n:Nat) (k:Wk) (sc:Bool) (x ix:Lf) (wd off:Nat),k.e_ (k.row sc x ix wd off n).1
 |0,k,_,_,_,_,_=>.refl k
 |n+1,k,sc,x,ix,wd,off=>by
  simp only[Wk.row]
  exact(Wk.bM k _ _).trans (Wk.rK n _ sc x ix wd (off+1))
theorem Wk.tZ:∀(n:Nat) (k:Wk) (sc:Bool) (x ix:Lf) (wd off:Nat),(k.row sc x ix wd off n).1.bJ S ρ->k.bJ S ρ
 |0,_,_,_,_,_,_,h=>h
 |n+1,k,sc,x,ix,wd,off,h=>by
  simp only[Wk.row]at h
  exact(Wk.bV (Wk.tZ n _ sc x ix wd (off+1) h)).1
theorem J3{x ix:Lf}{xs:List (List T)}{i wd off:Nat}{sc:Bool}{t:T}(hx:x.fN ρ=some (.l xs))(hi:mY ρ ix=some i)
  (h:Prim.ev (bif sc then .aU wd off else .cell wd off) [x.ev ρ,ix.ev ρ]=some t):
  ∃r,xs[i]?=some r∧r.length=wd∧r[off]?=some t∧(sc=true->dX t=true):=by
 cases sc with
 |false=>
  simp only[cond_false,Prim.ev,R' hx hi]at h
  cases hr:xs[i]? with
  |none=>simp[hr]at h
  |some r=>
   simp only[hr,Option.bind_some]at h
   split at h
   ·rename_i hl;exact⟨r,rfl,hl,h,λhf=>by cases hf⟩
   ·cases h
 |true=>
  simp only[cond_true,Prim.ev,R' hx hi]at h
  cases hr:xs[i]? with
  |none=>simp[hr]at h
  |some r=>
   simp only[hr,Option.bind_some]at h
   split at h
   ·rename_i hl
    cases ho:r[off]? with
    |none=>simp[ho]at h
    |some t'=>
     simp only[ho,Option.bind_some]at h
     split at h
     ·rename_i hs;cases h;exact⟨r,rfl,hl,ho,λ_=>hs⟩
     ·cases h
   ·cases h
theorem Wk.yR{G1:Gh}{x ix:Lf}{xs:List (List T)}{i wd:Nat}{sc:Bool}(hx:x.fN ρ=some (.l xs))(hi:mY ρ ix=some i){b base:Nat}
  (gR:∀r,xs[i]?=some r->r.length=wd->∀j t,r[j]?=some t->(sc=true->dX t=true)->∃u,w.cell? ⟨b,base+j,none⟩=some u∧eP G1.q w t u):
  ∀(n:Nat) (k:Wk) (off:Nat),(k.row sc x ix wd off n).1.bJ S ρ->
   ∃vs:List Value,vs.length=n∧(∀j v,vs[j]?=some v->w.cell? ⟨b,base+off+j,none⟩=some v)∧bn G1 w ρ (k.row sc x ix wd off n).2 vs∧dN (k.row sc x ix wd off n).2=[]
 |0,k,off,_=>⟨[],rfl,λj v hj=>by simp at hj,trivial,rfl⟩
 |n+1,k,off,hd=>by
  simp only[Wk.row]at hd⊢
  obtain⟨_,t,ht,hy⟩:=Wk.bV (Wk.tZ n _ sc x ix wd (off+1) hd)
  obtain⟨r,h1,h2,h3,h4⟩:=J3 hx hi ht
  obtain⟨u,h5,h6⟩:=gR r h1 h2 off t h3 h4
  obtain⟨vs,g1,g2,g3,g4⟩:=Wk.yR hx hi gR n _ (off+1) hd
  refine⟨u::vs,by simp[g1],λj v hj=>?_,⟨⟨t,hy,h6⟩,g3⟩,by simp[dN,g4]⟩
  cases j with
  |zero=>simp at hj;subst hj;simpa using h5
  |succ j=>
   have:=g2 j v (by simpa using hj)
   rwa[show base+(off+1)+j=base+off+(j+1) by omega]at this
theorem Sa{ix:Lf}{wd off i:Nat}(hi:mY ρ ix=some i):∀{q:oJ} {p:List (Nat×Nat)},gQ ρ q=some p->gQ ρ (q++[(ix,wd,off)])=some (p++[(i,off)])
 | [],p,h=>by simp only[gQ]at h;cases h;simp[gQ,hi]
 |(z1,z2,z3)::q,p,h=>by
  simp only[gQ]at h
  cases nB:mY ρ z1 with
  |none=>simp[nB]at h
  |some i1=>
   cases nr:gQ ρ q with
   |none=>simp[nB,nr]at h
   |some p2=>
    simp[nB,nr]at h
    subst h
    simp[gQ,nB,Sa hi nr]
theorem fg.row{G1:Gh}{id:Nat}{dp:Bool}{p:List (Nat×Nat)}{xs:List (List T)}{b n cap i wd:Nat}{r:List T}(h:fg G1 w id dp p (.l xs))
  (hH:G1.H id p=.slice (some ⟨b,0,none⟩) n cap)(hr:xs[i]?=some r)(hl:r.length=wd)(j:Nat)(t:T)(ht:r[j]?=some t):
  ∃v,w.cell? ⟨b,i*wd+j,none⟩=some v∧(∀u,t=.c u->v=u∧lr u=true)∧(∀ys,t=.l ys->dp=false->eP G1.q w t v)∧(∀ys,t=.l ys->dp=true->v=G1.H id (p++[(i,j)])):=by
 cases h with
 |nil h=>simp at hr
 | @l _ _ _ b' FD zW arr elem cv g1 g2 g3 g4 g5 g6 g7 g8 g9 g10 g11=>
  rw[hH]at g1
  cases g1
  have hw:FD=wd:=by rw[<-hl,g6 r (List.mem_of_getElem? hr)]
  subst hw
  have bN:dP xs i j=some t:=by simp[dP,hr,ht]
  refine⟨cv i j,by rw[zP g4];exact g7 i j t bN,λu hu=>?_,λys hy hd=>?_,λys hy hd=>?_⟩
  ·subst hu;exact g8 i j u bN
  ·subst hy;exact g9 i j ys bN hd
  ·subst hy;exact g10 i j ys bN hd
theorem zX{t:T}(h:dX t=true):∃v,t=.c v:=by
 cases t with
 |c v=>exact⟨v,rfl⟩
 |l _=>simp[dX]at h
theorem eP.row{ω:Nat->Option Lb}{xs:List (List T)}{b o n cap i wd:Nat}{r:List T}(h:eP ω w (.l xs) (.slice (some ⟨b,o,none⟩) n cap))
  (hr:xs[i]?=some r)(hl:r.length=wd):ω b=none∧b<w.heap.size∧∀(j:Nat) (t:T),r[j]?=some t->∃v,w.cell? ⟨b,o+i*wd+j,none⟩=some v∧eP ω w t v:=by
 generalize hv:Value.slice (some (⟨b,o,none⟩:Addr)) n cap=v at h
 cases h with
 |nil=>simp at hr
 | @l _ b' abw FD zW cv h1 h2 h3 h4 h5 h6=>
  cases hv
  have hw:FD=wd:=by rw[<-hl,h1 r (List.mem_of_getElem? hr)]
  subst hw
  refine⟨h3,h4,λj t ht=>?_⟩
  have bN:dP xs i j=some t:=by simp[dP,hr,ht]
  exact⟨cv i j,by rw[Nat.add_assoc];exact h5 i j t bN,h6 i j t bN⟩
theorem Wk.na:∀(zs:List Ce) (k:Wk) (y ix:Lf) (id:Nat) (q:oJ) (wd off:Nat),k.e_ (k.qP y ix id q wd off zs).1
 | [],k,_,_,_,_,_,_=>.refl k
 |z::zs,k,y,ix,id,q,wd,off=>by
  unfold Wk.qP
  cases fJ z with
  |true=>exact(Wk.bM k _ _).trans (Wk.na zs _ y ix id q wd (off+1))
  |false=>exact(Wk.bM k _ _).trans (Wk.na zs _ y ix id q wd (off+1))
theorem Wk.lX:∀(zs:List Ce) (k:Wk) (y ix:Lf) (id:Nat) (q:oJ) (wd off:Nat),(k.qP y ix id q wd off zs).1.bJ S ρ->k.bJ S ρ
 | [],_,_,_,_,_,_,_,h=>h
 |z::zs,k,y,ix,id,q,wd,off,h=>by
  unfold Wk.qP at h
  cases hz:fJ z with
  |true=>rw[hz]at h;exact(Wk.bV (Wk.lX zs _ y ix id q wd (off+1) h)).1
  |false=>rw[hz]at h;exact(Wk.bV (Wk.lX zs _ y ix id q wd (off+1) h)).1
theorem Wk.rL{G1:Gh}{y ix:Lf}{xs:List (List T)}{i wd id b base:Nat}{q:oJ}{p:List (Nat×Nat)}(hx:y.fN ρ=some (.l xs))(hi:mY ρ ix=some i)(hp:gQ ρ q=some p)(CD:id%2=1)
  (gR:∀r,xs[i]?=some r->r.length=wd->∀j t,r[j]?=some t->∃u,w.cell? ⟨b,base+j,none⟩=some u∧(∀v,t=.c v->u=v∧lr v=true)∧∀ys,t=.l ys->u=G1.H id (p++[(i,j)])):
  ∀(zs:List Ce) (k:Wk) (off:Nat),(k.qP y ix id q wd off zs).1.bJ S ρ->
   ∃vs:List Value,vs.length=zs.length∧(∀j v,vs[j]?=some v->w.cell? ⟨b,base+off+j,none⟩=some v)∧bn G1 w ρ (k.qP y ix id q wd off zs).2 vs∧∀j∈dN (k.qP y ix id q wd off zs).2,j=id
 | [],k,off,_=>⟨[],rfl,λj v hj=>by simp at hj,trivial,λj hj=>by simp[Wk.qP,dN]at hj⟩
 |z::zs,k,off,hd=>by
  unfold Wk.qP at hd⊢
  cases hz:fJ z with
  |true=>
   rw[hz]at hd
   simp only[cond_true]at hd⊢
   obtain⟨_,t,ht,_⟩:=Wk.bV (Wk.lX zs _ _ _ _ _ _ (off+1) hd)
   obtain⟨ys,rfl,bN,r,h1,h2⟩:=Fy hx hi ht
   have h3:r[off]?=some (.l ys):=by simpa[dP,h1]using bN
   obtain⟨u,h5,_,h6⟩:=gR r h1 h2 off _ h3
   obtain⟨vs,g1,g2,g3,g4⟩:=Wk.rL hx hi hp CD gR zs _ (off+1) hd
   refine⟨u::vs,by simp[g1],λj v hj=>?_,⟨⟨_,aa0 (Sa hi hp) CD,h6 ys rfl⟩,g3⟩,λj hj=>?_⟩
   ·cases j with
    |zero=>simp at hj;subst hj;simpa using h5
    |succ j=>
     have:=g2 j v (by simpa using hj)
     rwa[show base+(off+1)+j=base+off+(j+1) by omega]at this
   ·simp only[dN,List.mem_cons]at hj
    rcases hj with hj|hj
    ·exact hj
    ·exact g4 j hj
  |false=>
   rw[hz]at hd
   simp only[cond_false]at hd⊢
   obtain⟨_,t,ht,hy⟩:=Wk.bV (Wk.lX zs _ _ _ _ _ _ (off+1) hd)
   obtain⟨r,h1,h2,h3,h4⟩:=J3 (sc:=true) hx hi ht
   obtain⟨c,rfl⟩:=zX (h4 rfl)
   obtain⟨u,h5,h6,_⟩:=gR r h1 h2 off _ h3
   obtain⟨rfl,hs⟩:=h6 c rfl
   obtain⟨vs,g1,g2,g3,g4⟩:=Wk.rL hx hi hp CD gR zs _ (off+1) hd
   refine⟨u::vs,by simp[g1],λj v hj=>?_,⟨⟨.c u,hy,.c hs⟩,g3⟩,λj hj=>g4 j (by simpa[dN]using hj)⟩
   cases j with
   |zero=>simp at hj;subst hj;simpa using h5
   |succ j=>
    have:=g2 j v (by simpa using hj)
    rwa[show base+(off+1)+j=base+off+(j+1) by omega]at this
theorem abx(dW:ew P cx)(h:Rel M B d up s ρ G a w)(hn:∀n,o.dst=some n->n<a.tmps.size){x:Operand}{t:Nat}(ho:o.op=.load t x)
  (hk:∃k1 v,loadAt cx (cx.nest cV) ⟨s.only R,[],ct,[]⟩ t (cz d (Wk.get ⟨s.only R,[],ct,[]⟩) x)=some (k1,v)∧b9 d o k1 v=k')(hd:k'.bJ S ρ):bT P M B d up ρ a w s o k'.w Q∧k'.ct.i=ct.i:=by
 have hw:=dy.start h R ct
 obtain⟨hr,hm⟩:=hw.jc x
 obtain⟨k1,v,hv,hk⟩:=hk
 have cO:b9 d o k1 v=k':=hk
 subst cO
 have fI:=cX.1 hd
 have exe:∀{val:Value} {b off:Nat},a.eval x=.pointer (some ⟨b,off,none⟩)->(Instr.loadAt t (.pointer (some ⟨b,off,none⟩))).run P w=.ok val w->(execOp a.eval o).run P w=.ok (.value val) w:=by
  intro val b off he hl
  refine Ew (x:=Instr.loadAt t (a.eval x)) (by unfold execOp;rw[ho]) ?_
  rw[he];exact hl
 have ta:∀{k0:Wk} {G1:Gh} {ti:TI} {y ix:Lf} {xs:List (List T)} {i wd off b base:Nat} {sc:Bool},cx.ty t=some ti->dy M B d up ρ G a w k0 G1->k0.ct.i=ct.i->
   y.fN ρ=some (.l xs)->mY ρ ix=some i->a.eval x=.pointer (some ⟨b,base+off,none⟩)->
   (∀r,xs[i]?=some r->r.length=wd->∀j t,r[j]?=some t->(sc=true->dX t=true)->∃u,w.cell? ⟨b,base+j,none⟩=some u∧eP G1.q w t u)->
   (k0.row sc y ix wd off ti.sz).1=k1->SV.v ti.ag (k0.row sc y ix wd off ti.sz).2=v->bT P M B d up ρ a w s o (b9 d o k1 v).w Q∧(b9 d o k1 v).ct.i=ct.i:=by
  intro k0 G1 ti y ix xs i wd off b base sc fQ wP lA hy hi he gR h1 h2
  subst h1 h2
  obtain⟨vs,g1,g2,g3,g4⟩:=Wk.yR (S:=S) hy hi gR ti.sz k0 off fI
  have hT:=dW.ty _ _ fQ
  refine⟨tW h (wP.same (Wk.rK _ _ _ _ _ _ _)) hn (exe he (CB hT g1 g2)) (CC hT g3 g1) (λj hj=>by simp[dt,g4]at hj) Q,?_⟩
  rw[oL,(Wk.rK ti.sz k0 sc y ix wd off).i,lA]
 unfold loadAt at hv
 split at hv
 ·rename_i bx off eD
  rw[eD]at hr hm
  simp only[cN]at hv
  obtain⟨ti,fQ,hv⟩:=hv
  split at hv
  ·rename_i ag cs wQ
   cases hle:Nat.ble (off+ti.sz) cs.length with
   |false=>simp[hle]at hv
   |true=>
    simp only[hle,cond_true,bF,Prod.mk.injEq]at hv
    obtain⟨rfl,rfl⟩:=hv
    have hb:=hw.rel.bx bx
    rw[<-Wk.a_,wQ]at hb
    obtain⟨_,arr,elem,hh,lB⟩:=hb
    have hT:=dW.ty _ _ fQ
    have aby:=(lB.drop off).take ti.sz
    have hlen:((arr.toList.drop off).take ti.sz).length=ti.sz:=by
     have:=lB.length
     have:=Nat.le_of_ble_eq_true hle
     simp only[List.length_take,List.length_drop]
     omega
    refine⟨tW h hw hn (exe hr (CB hT hlen λj v hj=>?_)) (CC hT aby hlen) (λj hj=>?_) Q,by rw[oL]⟩
    ·rw[zP hh]
     rw[List.getElem?_take]at hj
     split at hj
     ·rw[List.getElem?_drop]at hj;simpa using hj
     ·cases hj
    ·have zY:=J1 cs off j (J2 _ _ j hj)
     refine hw.rel.fZ (.x bx) j ?_
     rw[<-Wk.a_,wQ];exact zY
  ·cases hv
 ·rename_i s' ix wd off eD
  rw[eD]at hr
  simp only[cN,bF,Prod.mk.injEq]at hv
  obtain⟨ti,fQ,h1,h2⟩:=hv
  obtain⟨xs,i,r,b,base,e1,e2,e3,e4,e5⟩:=hr
  refine ta fQ hw rfl e1 e2 e4 (λr' km hl j t' ht _=>?_) h1 h2
  rw[e3]at km
  cases km
  exact(e5 hl).2.2 j t' ht
 ·rename_i id q ix wd off eD
  rw[eD]at hr
  simp only[cN]at hv
  obtain⟨ti,fQ,hv⟩:=hv
  obtain⟨p,b,n,cap,i,e1,e2,e3,e4,e5⟩:=hr
  have ej:=hw.obj id
  split at hv
  ·rename_i y hy
   rw[hy]at ej
   obtain⟨tt,ht,bQ⟩:=ej
   have rM:∃ys,tt=.l ys:=by cases bQ<;>exact⟨_,rfl⟩
   cases tb:(cx.nest cV&&ti.zero.any fJ&&Nat.beq ti.zero.length ti.sz&&Nat.beq (id%2) 1)with
   |true=>
    simp only[tb,cond_true,bF,Prod.mk.injEq]at hv
    obtain⟨h1,h2⟩:=hv
    subst h1 h2
    have CD:id%2=1:=by
     simp only[bI]at tb
     exact dU tb.2
    have t_:ti.zero.length=ti.sz:=by
     simp only[bI]at tb
     exact dU tb.1.2
    have Sb:=Wk.lX _ _ _ _ _ _ _ _ fI
    obtain⟨z,hz,Bp,abz⟩:=Wk.jo q _ y Sb ht (vB e1) (.inr rM)
    have CE:∃ys,z=.l ys:=by
     rcases abz with rfl|h'
     ·simp only[nz]at e1;cases e1;simp[i_]at hz;subst hz;exact rM
     ·exact h'
    obtain⟨zs,rfl⟩:=CE
    have lY:=fg.kh p bQ hz ⟨zs,rfl⟩
    simp only[List.nil_append]at lY
    obtain⟨vs,g1,g2,g3,g4⟩:=Wk.rL (S:=S) (b:=b) (base:=i*wd) (wd:=wd) Bp e3 (vB e1) CD (λr km hl j t' j1=>by
     obtain⟨v',hc,ha,_,hb⟩:=lY.row e2 km hl j t' j1
     exact⟨v',hc,ha,λys hy=>hb ys hy rfl⟩) ti.zero _ off fI
    have hT:=dW.ty _ _ fQ
    refine⟨tW h ((hw.same (Wk.fx q _ y)).same (Wk.na _ _ _ _ _ _ _ _)) hn (exe e5 (CB hT (by rw[g1,t_]) g2)) (CC hT g3 (by rw[g1,t_])) (λj hj=>?_) Q,?_⟩
    ·have:=g4 j (by simpa[dt]using hj)
     subst this
     rw[eD]at hm
     exact hm j (by simp[dt])
    ·rw[oL,(Wk.na _ _ _ _ _ _ _ _).i,(Wk.fx q _ y).i]
   |false=>
    simp only[tb,cond_false]at hv
    cases hz:ti.zero.any fJ with
    |true=>
     simp only[hz,cond_true]at hv
     split at hv
     ·cases jS:Nat.beq (id%2) 0 with
      |true=>
       simp only[jS,cond_true,bF,Prod.mk.injEq]at hv
       obtain⟨h1,h2⟩:=hv
       have abA:=dU jS
       simp only[nz]at e1
       cases e1
       obtain⟨ys,rfl⟩:=rM
       refine ta fQ hw rfl ht e3 e5 (λr km hl j t' j1 _=>?_) h1 h2
       obtain⟨v',hc,ha,_,hb⟩:=bQ.row e2 km hl j t' j1
       refine⟨v',hc,?_⟩
       cases t' with
       |c u=>obtain⟨rfl,hs⟩:=ha u rfl;exact .c hs
       |l zs=>
        rw[hb zs rfl rfl]
        have bN:dP ys i j=some (.l zs):=by simp[dP,km,j1]
        have lY:=fg.kh [(i,j)] bQ (by simp[i_,bN]) ⟨zs,rfl⟩
        exact lY.R1 (.inr ⟨abA,by simp⟩) rfl
      |false=>
      simp only[jS,cond_false]at hv
      simp only[cN,bF,Prod.mk.injEq]at hv
      obtain⟨k2,cO,h1,h2⟩:=hv
      obtain⟨G2,IM,Fv,hH,sC,qU,his⟩:=hw.flat cO
      simp only[nz]at e1
      cases e1
      have Sc:=IM.obj id
      have Sd:k2.get (.o id)=.ob false y:=by
       unfold Wk.flat at cO
       rw[hy]at cO
       cases cO
       simp[Wk.get,Wk.set,St.bB]
      rw[Sd]at Sc
      obtain⟨tt2,J4,rN⟩:=Sc
      obtain⟨ys,rfl⟩:∃ys,tt2=.l ys:=by cases rN<;>exact⟨_,rfl⟩
      refine ta fQ IM (by rw[qU]) J4 e3 e5 (λr km hl j t' j1 _=>?_) h1 h2
      obtain⟨v',hc,ha,hb,_⟩:=rN.row (by rw[hH];exact e2) km hl j t' j1
      refine⟨v',hc,?_⟩
      cases t' with
      |c u=>obtain⟨rfl,hs⟩:=ha u rfl;exact .c hs
      |l zs=>exact hb zs rfl rfl
     ·cases hv
    |false=>
     simp only[hz,cond_false,bF,Prod.mk.injEq]at hv
     obtain⟨h1,h2⟩:=hv
     subst h1 h2
     have Sb:=Wk.tZ _ _ _ _ _ _ _ fI
     obtain⟨z,qG,Bp,t_⟩:=Wk.jo q _ y Sb ht (vB e1) (.inr rM)
     have CE:∃ys,z=.l ys:=by
      rcases t_ with rfl|h'
      ·simp only[nz]at e1;cases e1;simp[i_]at qG;subst qG;exact rM
      ·exact h'
     obtain⟨zs,rfl⟩:=CE
     have lY:=fg.kh p bQ qG ⟨zs,rfl⟩
     simp only[List.nil_append]at lY
     refine ta fQ (hw.same (Wk.fx q _ y)) (by rw[(Wk.fx q _ y).i]) Bp e3 e5 (λr km hl j t' j1 oM=>?_) rfl rfl
     obtain⟨v',hc,ha,_,_⟩:=lY.row e2 km hl j t' j1
     obtain⟨u,rfl⟩:=zX (oM rfl)
     obtain⟨rfl,hs⟩:=ha u rfl
     exact⟨_,hc,.c hs⟩
  ·rename_i y hy
   rw[hy]at ej
   split at hv
   ·simp only[bF,Prod.mk.injEq]at hv
    obtain⟨h1,h2⟩:=hv
    obtain⟨tt,ht,bQ⟩:=ej
    obtain⟨ys,rfl⟩:∃ys,tt=.l ys:=by cases bQ<;>exact⟨_,rfl⟩
    simp only[nz]at e1
    cases e1
    refine ta fQ hw rfl ht e3 e5 (λr km hl j t' j1 _=>?_) h1 h2
    obtain⟨v',hc,ha,hb,_⟩:=bQ.row e2 km hl j t' j1
    refine⟨v',hc,?_⟩
    cases t' with
    |c u=>obtain⟨rfl,hs⟩:=ha u rfl;exact .c hs
    |l zs=>exact hb zs rfl rfl
   ·cases hv
  ·rename_i y hy
   rw[hy]at ej
   split at hv
   ·simp only[bF,Prod.mk.injEq]at hv
    obtain⟨h1,h2⟩:=hv
    obtain⟨tt,ht,eb,_⟩:=ej
    simp only[nz]at e1
    cases e1
    rw[e2]at eb
    obtain⟨ys,rfl⟩:∃ys,tt=.l ys:=by
     cases tt with
     |c v=>have:=eb.scalar;cases this.1▸this.2
     |l ys=>exact⟨ys,rfl⟩
    refine ta (b:=b) (base:=i*wd) fQ hw rfl ht e3 e5 (λr km hl j t' j1 _=>?_) h1 h2
    obtain⟨v',hc,qH⟩:=(eb.row km hl).2.2 j t' j1
    exact⟨v',by simpa using hc,qH⟩
   ·cases hv
  ·cases hv
 ·cases hv
theorem abB{x i:T}{r:T}(h:Prim.ev .kg [x,i]=some r):∃xs kk n,x=.l xs∧i=.c (.int kk n)∧0<=n∧∃row,xs[n.toNat]?=some row:=by
 simp only[Prim.ev,wK,cN]at h
 obtain⟨row,⟨xs,hx,n,hn,hr⟩,_⟩:=h
 cases x with
 |c v=>simp[T.rows]at hx
 |l ys=>
  simp only[T.rows,bF]at hx
  subst hx
  cases i with
  |l _=>simp[T.int]at hn
  |c v=>
   cases v with
   |int kk m=>
    simp only[T.int,bF]at hn
    subst hn
    split at hr
    ·rename_i h0;exact⟨ys,kk,m,rfl,rfl,h0,row,hr⟩
    ·cases hr
   |_=>simp[T.int]at hn
theorem Se{x:Lf}{kk:IntKind}{n:Int}(h:x.fN ρ=some (.c (.int kk n)))(h0:0<=n):mY ρ x=some n.toNat:=by
 simp[mY,h,h0]
theorem abC{t:Nat}{ti te:TI}(hT:vE P t ti)(hE:vE P ti.el te)(hk:ti.kd=3){b off len cap:Nat}{kk:IntKind}{n:Int}(h0:0<=n)(hn:n<len):
  (Instr.indexAt t (.slice (some ⟨b,off,none⟩) len cap) (.int kk n)).run P w=.ok (.pointer (some ⟨b,off+n.toNat*te.sz,none⟩)) w:=by
 have hu:=hT.sl hk
 obtain⟨i,z,hi,hs,_,_,_⟩:=hE.info
 simp[Instr.indexAt,asIntOf,run_underlying hu,h0,hn,sizeOf,typeInfo,hi,hs,Addr.add_lit]
theorem J5{lo:Lf}{n:Nat}(h:II lo=true)(h2:mY ρ lo=some n):n=0:=by
 unfold II at h
 split at h
 ·rename_i k m
  have hm:m=0:=of_decide_eq_true h
  subst hm
  simp[mY,Lf.fN,lr]at h2
  exact h2.symm
 ·cases h
theorem abD(dW:ew P cx)(h:Rel M B d up s ρ G a w)(hn:∀n,o.dst=some n->n<a.tmps.size){x y:Operand}{t:Nat}(ho:o.op=.indexAddr t x y)
  (hk:jm cx cV ft d o oi ⟨s.only R,[],ct,[]⟩=some k')(hd:k'.bJ S ρ):bT P M B d up ρ a w s o k'.w Q∧k'.ct.i=ct.i:=by
 have hw:=dy.start h R ct
 obtain⟨hr,hm⟩:=hw.jc x
 have JY:=(hw.jc y).1
 simp only[jm,ho,indexAt,cN,bF]at hk
 obtain⟨⟨k1,v⟩,⟨ti,fQ,te,tX,hv⟩,hk⟩:=hk
 have cO:b9 d o k1 v=k':=hk
 subst cO
 have fI:=cX.1 hd
 have hT:=dW.ty _ _ fQ
 have hE:=dW.ty _ _ tX
 cases iC:Nat.beq ti.kd 3 with
 |false=>simp[iC]at hv
 |true=>
  have sB:=dU iC
  simp only[iC,cond_true,cN]at hv
  obtain⟨⟨k2,ix⟩,h1,hv⟩:=hv
  have exe:∀{b off len cap:Nat} {kk:IntKind} {n:Int},a.eval x=.slice (some ⟨b,off,none⟩) len cap->a.eval y=.int kk n->0<=n->n<len->
    (execOp a.eval o).run P w=.ok (.value (.pointer (some ⟨b,off+n.toNat*te.sz,none⟩))) w:=by
   intro b off len cap kk n e1 e2 h0 bE
   refine Ew (x:=Instr.indexAt t (a.eval x) (a.eval y)) (by unfold execOp;rw[ho]) ?_
   rw[e1,e2];exact abC hT hE sB h0 bE
  have nB:Wk.e_ ⟨s.only R,[],ct,[]⟩ k2:=by
   unfold Wk.one at h1;split at h1
   ·exact Wk.dR h1
   ·cases h1
  have ixv:∀{k3:Wk} {z:Lf},(k3.em .kg [z,ix]).1.bJ S ρ->(k3.bJ S ρ->k2.bJ S ρ)->∃xs kk n row,k3.bJ S ρ∧z.ev ρ=.l xs∧a.eval y=.int kk n∧0<=n∧xs[n.toNat]?=some row∧mY ρ ix=some n.toNat:=by
   intro k3 z Bq J6
   obtain⟨IP,r,ua,_⟩:=Wk.bV Bq
   obtain⟨_,_,t1,ht1,nA⟩:=Wk.iB hw h1 (J6 IP) JY
   simp only[List.map_cons,List.map_nil,Lf.bU ht1]at ua
   obtain⟨xs,kk,n,hx,hi,h0,row,gR⟩:=abB ua
   subst hi
   obtain⟨e,_⟩:=nA.scalar
   exact⟨xs,kk,n,row,IP,hx,e,h0,gR,Se ht1 h0⟩
  have CF:∀{xs:List (List T)} {n:Int} {row:List T},0<=n->xs[n.toNat]?=some row->n<xs.length:=by
   intro xs n row h0 gR
   have:=(List.getElem?_eq_some_iff.1 gR).1
   omega
  have plain:∀{z:Lf} {tt:T} {val:Value} {k3:Wk} ,k3=k2->z.fN ρ=some tt->eP G.q w tt val->a.eval x=val->k1=(k3.em .kg [z,ix]).1->v=.fp z ix te.sz 0->
    bT P M B d up ρ a w s o (b9 d o k1 v).w Q∧(b9 d o k1 v).ct.i=ct.i:=by
   intro z tt val k3 iC hz eb iD e1 e2
   subst iC e1 e2
   obtain⟨xs,kk,n,row,_,hx,he,h0,gR,cC⟩:=ixv fI id
   rw[Lf.bU hz]at hx
   subst hx
   have bE:=CF h0 gR
   obtain⟨ad,cap,sP,_⟩:=eb.rows
   subst sP
   cases eb with
   |nil=>simp at bE;omega
   | @l _ b off FD zW cv g1 g2 g3 g4 g5 g6=>
    refine⟨tW h ((hw.same nB).same (Wk.bM _ _ _)) hn (x:=.fp z ix te.sz 0) (exe iD he h0 bE) ?_ (λi hi=>by simp[dt]at hi) Q,?_⟩
    ·refine⟨xs,n.toNat,row,b,off+n.toNat*te.sz,hz,cC,gR,rfl,λhl=>?_⟩
     exact(eP.l g1 g2 g3 g4 g5 g6).row gR hl
    ·rw[oL,(Wk.bM _ _ _).i,nB.i]
  have owned:∀{id:Nat} {q:oJ} {p:List (Nat×Nat)} {z:Lf} {zs:List (List T)} {dp:Bool} {k3:Wk},k2.e_ k3->(k3.bJ S ρ->k2.bJ S ρ)->lU ρ id q=some p->
    z.fN ρ=some (.l zs)->fg G w id dp p (.l zs)->a.eval x=G.H id p->M id->k1=(k3.em .kg [z,ix]).1->v=.ep id q ix te.sz 0->
    bT P M B d up ρ a w s o (b9 d o k1 v).w Q∧(b9 d o k1 v).ct.i=ct.i:=by
   intro id q p z zs dp k3 hsm J6 hp hz bQ iD hM e1 e2
   subst e1 e2
   obtain⟨xs,kk,n,row,_,hx,he,h0,gR,cC⟩:=ixv fI J6
   rw[Lf.bU hz]at hx
   cases hx
   have bE:=CF h0 gR
   cases bQ with
   |nil hH=>simp at bE;omega
   | @l _ _ _ b FD zW arr elem cv g1 g2 g3 g4 g5 g6 g7 g8 g9 g10 g11=>
    refine⟨tW h ((((hw.same nB).same hsm)).same (Wk.bM _ _ _)) hn (x:=.ep id q ix te.sz 0) (exe (by rw[iD,g1]) he h0 bE) ?_ (λi hi=>by simp[dt]at hi;rw[hi];exact hM) Q,?_⟩
    ·exact⟨p,b,_,_,n.toNat,hp,g1,cC,by omega,by simp⟩
    ·rw[oL,(Wk.bM _ _ _).i,hsm.i,nB.i]
  split at hv
  ·rename_i z eD
   rw[eD]at hr
   obtain⟨e,he,sD,_⟩:=hr
   cases he
   obtain⟨tt,hz,eb⟩:=sD
   simp only[bF,Prod.mk.injEq]at hv
   exact plain rfl hz eb rfl hv.1.symm hv.2.symm
  ·rename_i id q eD
   rw[eD]at hr hm
   obtain⟨e,he,sD,_⟩:=hr
   cases he
   obtain⟨p,hp,iD⟩:=sD
   have hM:M id:=hm id (by simp[dt,dN])
   have ej:=(hw.same nB).obj id
   split at hv
   ·rename_i q' z hz
    rw[hz]at ej
    obtain⟨tt,ht,bQ⟩:=ej
    have rM:∃ys,tt=.l ys:=by cases bQ<;>exact⟨_,rfl⟩
    simp only[bF,Prod.mk.injEq]at hv
    obtain⟨e1,e2⟩:=hv
    subst e1
    have Sb:=(Wk.bV fI).1
    obtain⟨u,hu,Bp,t_⟩:=Wk.jo _ _ z Sb ht (vB hp) (.inr rM)
    have CE:∃ys,u=.l ys:=by
     rcases t_ with hq0|h'
     ·have hp:=vB hp;rw[hq0]at hp;simp only[gQ]at hp;cases hp;simp[i_]at hu;subst hu;exact rM
     ·exact h'
    obtain⟨zs,rfl⟩:=CE
    have lY:=fg.kh p bQ hu ⟨zs,rfl⟩
    simp only[List.nil_append]at lY
    exact owned (Wk.fx _ _ z) (Wk.lV _ _ _) hp Bp lY iD hM rfl e2.symm
   ·rename_i z hz
    rw[hz]at ej
    obtain⟨tt,ht,bQ⟩:=ej
    obtain⟨ys,rfl⟩:∃ys,tt=.l ys:=by cases bQ<;>exact⟨_,rfl⟩
    simp only[bF,Prod.mk.injEq]at hv
    simp only[nz]at hp
    cases hp
    exact owned (.refl _) (λh=>h) rfl ht bQ iD hM hv.1.symm hv.2.symm
   ·rename_i tk x0 lo z hz
    rw[hz]at ej
    obtain⟨tt,ht,eb,_,F,n0,zs,_,pJ,rfl,_,vF,FE⟩:=ej
    simp only[nz]at hp
    cases hp
    cases t_:II lo with
    |false=>
     simp only[t_,cond_false,bF,Prod.mk.injEq]at hv
     exact plain rfl ht eb iD hv.1.symm hv.2.symm
    |true=>
     simp only[t_,cond_true,bF,Prod.mk.injEq]at hv
     have zZ:n0=0:=J5 t_ pJ
     obtain⟨e1,e2⟩:=hv
     subst e1 e2
     obtain⟨xs,kk,n,row,_,hx,he,h0,gR,cC⟩:=ixv fI (λh=>h)
     rw[Lf.bU ht]at hx
     cases hx
     have bE:=CF h0 gR
     obtain⟨ad,cap,sP,_⟩:=eb.rows
     rw[sP]at eb
     generalize uR:Value.slice ad zs.length cap=vv at eb
     cases eb with
     |nil=>simp at bE;omega
     | @l _ b off FD zW cv g1 g2 g3 g4 g5 g6=>
      cases uR
      have CG:=FE zZ b off _ _ sP
      subst CG
      refine⟨tW h ((hw.same nB).same (Wk.bM _ _ _)) hn (x:=.ep id [] ix te.sz 0) (exe (by rw[iD,sP]) he h0 bE) ?_ (λi hi=>by simp[dt]at hi;rw[hi];exact hM) Q,?_⟩
      ·exact⟨[],b,_,_,n.toNat,rfl,sP,cC,by omega,by simp⟩
      ·rw[oL,(Wk.bM _ _ _).i,nB.i]
   ·rename_i pv z _ hz
    rw[hz]at ej
    obtain⟨tt,ht,eb,_⟩:=ej
    simp only[bF,Prod.mk.injEq]at hv
    simp only[nz]at hp
    cases hp
    exact plain rfl ht eb iD hv.1.symm hv.2.symm
   ·cases hv
  ·cases hv
theorem bn.append:∀{cs es:List Ce} {vs us:List Value},bn G w ρ cs vs->bn G w ρ es us->bn G w ρ (cs++es) (vs++us)
 | [],_,[],_,_,h=>h
 | [],_,_::_,_,h,_=>h.elim
 |_::_,_,[],_,h,_=>h.elim
 |_::cs,_,_::vs,_,h,h'=>⟨h.1,bn.append h.2 h'⟩
theorem bn.gB{cs es:List Ce}{vs us:List Value}(off:Nat)(h:bn G w ρ cs vs)(h':bn G w ρ es us):
  bn G w ρ (gB cs off es) (vs.take off++us++vs.drop (off+us.length)):=by
 unfold Go.Proofs.YtjimmglpkndemaaGreatC.gB
 rw[<-h'.length]
 exact((h.take off).append h').append (h.drop _)
theorem J7(cs es:List Ce):dN (cs++es)=dN cs++dN es:=by
 induction cs with
 |nil=>rfl
 |cons c cs ih=>rw[List.cons_append,zN,zN c cs,ih,List.append_assoc]
theorem Sf(cs es:List Ce)(off:Nat):∀i∈dN (gB cs off es),i∈dN cs∨i∈dN es:=by
 intro i hi
 unfold gB at hi
 rw[J7,J7]at hi
 simp only[List.mem_append]at hi
 rcases hi with(hi|hi)|hi
 ·exact .inl (J2 _ _ i hi)
 ·exact .inr hi
 ·exact .inl (J1 _ _ i hi)
def z7:List Value->Nat->Array Value->Array Value
 | [],_,c=>c
 |v::vs,off,c=>z7 vs (off+1) (c.setIfInBounds off v)
theorem Sg(off:Nat):∀(vs:List Value) (j:Nat) (c:Array Value),
  (vs.zipIdx j).foldl (λcs p=>cs.setIfInBounds (off+p.2) p.1) c=z7 vs (off+j) c
 | [],_,_=>rfl
 |v::vs,j,c=>by
  simp only[List.zipIdx_cons,List.foldl_cons,z7]
  rw[Sg off vs (j+1),Nat.add_assoc]
theorem PZ:∀(vs:List Value) (off:Nat) (c:Array Value),(z7 vs off c).size=c.size
 | [],_,_=>rfl
 |v::vs,off,c=>by simp[z7,PZ vs]
theorem P0:∀(vs:List Value) (off:Nat) (c:Array Value) (i:Nat),off+vs.length<=c.size->
  (z7 vs off c)[i]?=if off<=i∧i<off+vs.length then vs[i-off]? else c[i]?
 | [],off,c,i,_=>by
  simp only[z7,List.length_nil]
  rw[if_neg (by omega)]
 |v::vs,off,c,i,h=>by
  simp only[List.length_cons]at h
  simp only[z7]
  rw[P0 vs (off+1) _ i (by simp;omega)]
  by_cases h1:i=off
  ·subst h1
   rw[if_neg (by omega),if_pos (by simp)]
   simp[show i<c.size by omega]
  ·by_cases h2:off+1<=i∧i<off+1+vs.length
   ·rw[if_pos h2,if_pos (by simp;omega)]
    rw[show i-off=(i-(off+1))+1 by omega]
    simp
   ·rw[if_neg h2,if_neg (by simp;omega)]
    rw[Array.getElem?_setIfInBounds_ne (by omega)]
theorem ZV(vs:List Value)(off:Nat)(c:Array Value)(h:off+vs.length<=c.size):
  (z7 vs off c).toList=c.toList.take off++vs++c.toList.drop (off+vs.length):=by
 apply List.ext_getElem?
 intro i
 rw[Array.getElem?_toList,P0 vs off c i h]
 have hl:(c.toList.take off).length=off:=by simp;omega
 by_cases h1:i<off
 ·rw[if_neg (by omega),List.append_assoc,List.getElem?_append_left (by omega),List.getElem?_take,if_pos h1,Array.getElem?_toList]
 ·rw[List.append_assoc,List.getElem?_append_right (by omega),hl]
  by_cases h2:i<off+vs.length
  ·rw[if_pos ⟨by omega,h2⟩,List.getElem?_append_left (by omega)]
  ·rw[if_neg (by omega),List.getElem?_append_right (by omega),List.getElem?_drop,Array.getElem?_toList]
   congr 1
   omega
theorem Sh{ag:Bool}{cs:List Ce}{v:Value}(h:fh G w ρ ag cs v):bn G w ρ cs v.cells.toList:=by
 cases ag with
 |true=>obtain⟨vs,rfl,h⟩:=h;exact h
 |false=>
  obtain⟨e,rfl,h,hn⟩:=h
  have:v.cells=#[v]:=by
   cases v<;>first|rfl|exact absurd rfl (hn _)
  rw[this]
  exact⟨h,trivial⟩
theorem J8:∀{cs:List Ce} {vs:List Value},Cy cs vs->bn G w ρ cs vs∧dN cs=[]
 | [],[],_=>⟨trivial,rfl⟩
 | [],_::_,h=>h.elim
 | .p (.k v)::cs,v'::vs,h=>by
  obtain⟨rfl,hs,h⟩:=h
  obtain⟨h1,h2⟩:=J8 h
  exact⟨⟨⟨.c v,by simp[Lf.fN,hs],.c hs⟩,h1⟩,by simp[dN,h2]⟩
 | .n::cs,v::vs,h=>by
  obtain⟨rfl,h⟩:=h
  obtain⟨h1,h2⟩:=J8 h
  exact⟨⟨rfl,h1⟩,by simp[dN,h2]⟩
 | .p (.k _)::_,[],h=>h.elim
 | .n::_,[],h=>h.elim
 | .p (.a _)::_,[],h=>h.elim
 | .p (.a _)::_,_::_,h=>h.elim
 | .p .e::_,[],h=>h.elim
 | .p .e::_,_::_,h=>h.elim
 | .o _ _::_,[],h=>h.elim
 | .o _ _::_,_::_,h=>h.elim
 | .d::_,[],h=>h.elim
 | .d::_,_::_,h=>h.elim
theorem J9{G1:Gh}{k:Wk}(hw:dy M B d up ρ G a w k G1){fs:List (Nat×Nat)}{place:Nat->Option (Nat×Nat)}(vG:∀f o,fs[f]?=some o->place f=some o):
  ∀(ps:List (Nat×Operand)) (l:List (Nat×List Ce)) (zs cs:List Ce) (arr:Array Value),parts d k.get fs ps=some l->zE zs l=some cs->bn G1 w ρ zs arr.toList->
   (∀i∈dN zs,M i)->∃lJ,Instr.fill place arr (ps.map λp=>(p.1,a.eval p.2))=some lJ∧bn G1 w ρ cs lJ.toList∧(∀i∈dN cs,M i)∧lJ.size=arr.size
 | [],l,zs,cs,arr,hp,hc,hz,hi=>by
  simp only[parts,bF]at hp
  subst hp
  simp only[zE,bF]at hc
  subst hc
  exact⟨arr,rfl,hz,hi,rfl⟩
 |(f,x)::ps,l,zs,cs,arr,hp,hc,hz,hi=>by
  simp only[parts,cN]at hp
  obtain⟨of,hf,es,uS,hp⟩:=hp
  cases hle:Nat.beq es.length of.2 with
  |false=>simp[hle]at hp
  |true=>
   simp only[hle,cond_true,cN,bF]at hp
   obtain⟨l',lu,rfl⟩:=hp
   simp only[zE]at hc
   cases hb:Nat.ble (of.1+es.length) zs.length with
   |false=>simp[hb]at hc
   |true=>
    simp only[hb,cond_true]at hc
    obtain⟨hr,hm⟩:=hw.jc x
    unfold cellsOf at uS
    split at uS
    ·rename_i ag es' eD
     cases uS
     rw[eD]at hr hm
     have lB:=Sh hr
     have hlen:=lB.length
     have t_:=hz.length
     have h1:=dU hle
     have h2:=Nat.le_of_ble_eq_true hb
     simp only[Array.length_toList]at hlen t_
     have lZ:of.1+(a.eval x).cells.toList.length<=arr.size:=by simp only[Array.length_toList];omega
     have sQ:(((a.eval x).cells.zipIdx.foldl (λcs (c,j)=>cs.setIfInBounds (of.1+j) c) arr))=z7 (a.eval x).cells.toList of.1 arr:=by
      rw[<-Array.foldl_toList,Array.toList_zipIdx]
      exact Sg of.1 _ 0 arr
     have qG:=bn.gB of.1 hz lB
     rw[<-ZV _ _ _ lZ]at qG
     obtain⟨lJ,g1,g2,g3,g4⟩:=J9 hw vG ps l' _ cs (z7 (a.eval x).cells.toList of.1 arr) lu hc qG λi aO=>by
      rcases Sf _ _ _ i aO with h|h
      ·exact hi i h
      ·exact hm i h
     refine⟨lJ,?_,g2,g3,by rw[g4,PZ]⟩
     simp only[List.map_cons,Instr.fill,vG f of hf]
     rw[if_neg]
     ·rw[sQ];exact g1
     ·simp only[Array.length_toList]at lZ
      simp only[Bool.or_eq_true,decide_eq_true_eq]
      omega
    ·cases uS
theorem Si:∀(l:List Field),(∀f∈l,∃i,P.info? f.type=some i)->
  (l.mapM λf=>(do pure (f.offset,<-sizeOf f.type):Sem (Nat×Nat))).run P w=.ok (l.map λf=>(f.offset,((P.info? f.type).map (·.size)).getD 0)) w
 | [],_=>rfl
 |f::l,h=>by
  obtain⟨i,hi⟩:=h f (by simp)
  have ih:=Si l λg hg=>h g (by simp[hg])
  have h1:(do pure (f.offset,<-sizeOf f.type):Sem (Nat×Nat)).run P w=.ok (f.offset,i.size) w:=by
   simp[sizeOf,typeInfo,hi]
  rw[List.mapM_cons,Sem.run_bind,h1]
  simp only[Result.andThen_ok,Sem.run_bind,ih,Sem.run_pure,List.map_cons,hi,Option.map_some,Option.getD_some]
theorem abF(dW:ew P cx)(h:Rel M B d up s ρ G a w)(hn:∀n,o.dst=some n->n<a.tmps.size){t:Nat}{ps:Array (Nat×Operand)}(ho:o.op=.build t ps)
  (hk:jm cx cV ft d o oi ⟨s.only R,[],ct,[]⟩=some k'):bT P M B d up ρ a w s o k'.w Q∧k'.ct.i=ct.i:=by
 have hw:=dy.start h R ct
 simp only[jm,ho,cN]at hk
 obtain⟨ti,fQ,hk⟩:=hk
 cases J_:ti.ag with
 |false=>simp[J_]at hk
 |true=>
 simp only[J_,cond_true,cN,bF]at hk
 obtain⟨l,hl,cs,lB,hk⟩:=hk
 have cO:b9 d o ⟨s.only R,[],ct,[]⟩ (.v true cs)=k':=hk
 subst cO
 have hT:=dW.ty _ _ fQ
 obtain⟨i,z,hi,hs,_,hz,zR⟩:=hT.info
 obtain⟨u,hu,pu,_⟩:=hT.ag
 obtain⟨wR,qG⟩:=J8 (G:=G) (w:=w) (ρ:=ρ) zR
 obtain⟨fs,rfl⟩:=pu.1 J_
 have hlen:=hT.fl fs hu
 have CH:∀f∈fs.toList,∃i,P.info? f.type=some i:=by
  intro f hf
  obtain⟨n,ZW⟩:=List.getElem?_of_mem hf
  have bE:n<ti.fs.length:=by rw[<-hlen,<-Array.length_toList];exact(List.getElem?_eq_some_iff.1 ZW).1
  obtain⟨jR,Bn,i',e1,e2,_,e4,_⟩:=hT.fs n ti.fs[n] (List.getElem?_eq_getElem bE)
  rw[hu]at e1
  cases e1
  rw[<-Array.getElem?_toList,ZW]at e2
  cases e2
  exact⟨i',e4⟩
 have vG:∀(f:Nat) (o:Nat×Nat),ti.fs[f]?=some o->((fs.toList.map λf=>(f.offset,((P.info? f.type).map (·.size)).getD 0)).toArray)[f]?=some o:=by
  intro f o hf
  obtain⟨jR,Bn,i',e1,e2,e3,e4,_,e6⟩:=hT.fs f o hf
  rw[hu]at e1
  cases e1
  simp only[List.getElem?_toArray,List.getElem?_map,Array.getElem?_toList,e2,Option.map_some,e4,Option.getD_some,e3,e6]
 obtain⟨lJ,g1,g2,g3,g4⟩:=J9 (a:=a) hw (place:=λf=>((fs.toList.map λf=>(f.offset,((P.info? f.type).map (·.size)).getD 0)).toArray)[f]?) vG ps.toList l ti.zero cs z.cells hl lB wR (λi hi=>by rw[qG]at hi;cases hi)
 refine⟨tW h hw hn (x:=.v true cs) (v:=.agg lJ) (Ew (x:=Instr.build t (ps.map λ(i,x)=>(i,a.eval x))) (by unfold execOp;rw[ho]) ?_) ⟨lJ.toList,by simp,g2⟩ g3 Q,by rw[oL]⟩
 have abG:(fs.mapM λf=>(do pure (f.offset,<-sizeOf f.type):Sem (Nat×Nat))).run P w=.ok (fs.toList.map λf=>(f.offset,((P.info? f.type).map (·.size)).getD 0)).toArray w:=by
  rw[Array.mapM_eq_mapM_toList,Sem.run_map,Si _ CH]
  rfl
 have Br:(ps.map λ(x:Nat×Operand)=>(x.1,a.eval x.2)).toList=ps.toList.map λp=>(p.1,a.eval p.2):=by simp
 simp only[Instr.build,Sem.run_bind,zeroValue,typeInfo,run_program,hi,Result.andThen_ok,Sem.run_pure,hz,run_underlying hu,abG,Br,g1]
end
section
variable {M M':Nat->Prop} {B:eT} {d:Nat} {up:Nat->Nat->Value} {s:St} {ρ:List T} {G:Gh} {a:Act} {w:World} {S:Nat->aB} {P:Program}
structure CI (M':Nat->Prop) (d:Nat) (up:Nat->Nat->Value) (ρ:List T) (G':Gh) (a':Act) (w':World) (W:St):Prop where
 tm:∀e n u,e<=d->W.look (.t e n)=some u->cL G' w' ρ u (qB up d a' e n)
 bx:∀b u,W.look (.x b)=some u->fY G' w' ρ b u
 ob:∀i u,W.look (.o i)=some u->cM G' w' ρ i u
 fZ:∀r u,W.look r=some u->∀i∈dt u,M' i
 key:∀i,(W.look (.x i)≠none∨W.look (.o i)≠none)->M' i
 iO:∀b l,G'.ω b=some l->M' l.id∧b<w'.heap.size
structure jK (w w':World):Prop where
 os:w'.os=w.os
 tape:w'.tape=w.tape
 output:w'.output=w.output
theorem Rel.step(h:Rel M B d up s ρ G a w){N:Nat->Prop}{G':Gh}{w':World}{W:St}(k:dA (qC W) N G w G' w'){dst:Option Nat}{v:Value}
  (hN:∀i,N i->¬M i)(hM:∀i,M i->M' i)(hd:∀n,dst=some n->W.look (.t d n)≠none)(so:jK w w')(st:CI M' d up ρ G' (a.put dst v) w' W):
  Rel M' B d up (s.fw W) ρ G' (a.put dst v) w':=by
 refine⟨?_,?_,?_,?_,?_,st.iO,?_,?_,λi b hb=>⟨hM i (h.bt i b hb).1,?_⟩⟩
 ·intro e n he
  rw[St.a_]
  cases hl:W.look (.t e n)with
  |some u=>exact st.tm e n u he hl
  |none=>
   rw[JW λ⟨h1,h2⟩=>hd n h2 (h1▸hl)]
   exact(h.tm e n he).bp k λi hi hn=>hN i hn (h.fZ _ i hi)
 ·intro b
  rw[St.a_]
  cases hl:W.look (.x b)with
  |some u=>exact st.bx b u hl
  |none=>
   by_cases hu:s.get (.x b)=.un
   ·simp only[Option.getD_none,hu];trivial
   ·exact(h.bx b).bp k (λhk=>hk hl) (λhn=>hN b hn (h.key b (.inl hu))) λi hi hn=>hN i hn (h.fZ _ i hi)
 ·intro i
  rw[St.a_]
  cases hl:W.look (.o i)with
  |some u=>exact st.ob i u hl
  |none=>
   by_cases hu:s.get (.o i)=.un
   ·simp only[Option.getD_none,hu];trivial
   ·exact(h.ob i).bp k (λp hk=>hk hl) (λhn=>hN i hn (h.key i (.inr hu))) λj hj hn=>hN j hn (h.fZ _ j hj)
 ·intro r i hi
  rw[St.a_]at hi
  cases hl:W.look r with
  |some u=>rw[hl]at hi;exact st.fZ r u hl i hi
  |none=>rw[hl]at hi;exact hM i (h.fZ r i hi)
 ·intro i hi
  rw[St.a_,St.a_]at hi
  rcases hi with hi|hi
  ·cases hl:W.look (.x i)with
   |some u=>exact st.key i (.inl (by rw[hl];simp))
   |none=>rw[hl]at hi;exact hM i (h.key i (.inl hi))
  ·cases hl:W.look (.o i)with
   |some u=>exact st.key i (.inr (by rw[hl];simp))
   |none=>rw[hl]at hi;exact hM i (h.key i (.inr hi))
 ·have:=h.dn;cases dst<;>exact this
 ·obtain⟨b1,b2,b3,b4,b5,b6,b7⟩:=h.base
  refine⟨so.os.trans b1,so.tape.trans b2,so.output.trans b3,Nat.le_trans b4 k.size,λb hb h0=>?_,λb hb=>?_,b7⟩
  ·obtain⟨h1,h2⟩:=b5 b hb h0
   obtain⟨_,h4⟩:=k.free b (Nat.lt_of_lt_of_le hb b4) (Cr h1)
   exact⟨k.ZU b (Nat.lt_of_lt_of_le hb b4) h1,h4.trans h2⟩
  ·obtain⟨h1,h2⟩:=b6 b hb
   obtain⟨h3,h4⟩:=k.own b .f h1 (λhf=>hf)
   exact⟨h3,h4.trans h2⟩
 ·obtain⟨h1,h2⟩:=h.bt i b hb
  rw[(k.nm i λhn=>hN i hn h1).1];exact h2
theorem abH{W W1 W2:St}(hW:∀r,W.look r=(W2.look r).or (W1.look r)):(∀l,qC W1 l->qC W l)∧(∀l,qC W2 l->qC W l):=by
 constructor
 ·intro l hl
  cases l with
  |f=>exact hl
  |x b=>show W.look _≠none;rw[hW];intro e;rw[Option.or_eq_none_iff]at e;exact hl e.2
  |o i p=>show W.look _≠none;rw[hW];intro e;rw[Option.or_eq_none_iff]at e;exact hl e.2
 ·intro l hl
  cases l with
  |f=>exact hl
  |x b=>show W.look _≠none;rw[hW];intro e;rw[Option.or_eq_none_iff]at e;exact hl e.1
  |o i p=>show W.look _≠none;rw[hW];intro e;rw[Option.or_eq_none_iff]at e;exact hl e.1
theorem J'{k:Wk}{G1:Gh}(h:Rel M B d up s ρ G a w)(hk:dy M B d up ρ G a w k G1){dst:Option Nat}{v:Value}{w':World}{G2:Gh}{N:Nat->Prop}{W W2:St}
  (hW:∀r,W.look r=(W2.look r).or (k.w.look r))(bp:dA (qC W2) N G1 w G2 w')(hN:∀i,N i->¬M i)(hM:∀i,M i->M' i)
  (hd:∀n,dst=some n->W2.look (.t d n)≠none)(so:jK w w')(st:CI M' d up ρ G2 (a.put dst v) w' W2):
  Rel M' B d up (s.fw W) ρ G2 (a.put dst v) w':=by
 have hg:∀r,(k.r.fw W).get r=((k.r.fw k.w).fw W2).get r:=by
  intro r
  rw[St.a_,St.a_,St.a_,hW]
  cases W2.look r<;>rfl
 obtain⟨k1,k2⟩:=abH hW
 refine h.glue (s':=k.r) ((hk.bp.mono k1 λ_ hf=>hf.elim).trans (bp.mono k2 λ_ hn=>hn)) hN hM (λn hn he=>?_) ((hk.rel.step bp hN hM hd so st).congr hg)
 rw[hW,Option.or_eq_none_iff]at he
 exact hd n hn he.1
variable {cx:Cx} {cV ft oi:Nat} {R:List bD} {ct:Ct} {k':Wk} {o:Oper} {Q:Exit->Act->World->Prop}
def Mn(M:Nat->Prop)(lo hi:Nat):Nat->Prop:=λi=>M i∨(lo<=i∧i<hi)
theorem Mn.left{M:Nat->Prop}{lo hi i:Nat}(h:M i):Mn M lo hi i:=.inl h
theorem abI{k:Wk}{v:SV}(r:bD):(b9 d o k v).w.look r=if o.dst.map (bD.t d)=some r then some v else k.w.look r:=by
 unfold b9
 cases o.dst with
 |none=>simp
 |some n=>
  simp only[Option.map_some,bF]
  split
  ·rename_i he;subst he;exact St.bB _ _ _
  ·rename_i he;exact St.cG _ _ he
def fA(d:Nat)(o:Oper)(v:SV):St:=match o.dst with|some n=>[(.t d n,v)]|none=>[]
theorem Ka{v:SV}(r:bD):(fA d o v).look r=if o.dst.map (bD.t d)=some r then some v else none:=by
 unfold fA
 cases o.dst with
 |none=>simp[St.look]
 |some n=>
  simp only[Option.map_some,bF,St.look]
  cases hb:(bD.t d n).beq r with
  |true=>simp[bD.beq_iff.1 hb]
  |false=>
   have:¬(bD.t d n=r):=λe=>by simp[bD.beq_iff.2 e]at hb
   simp[this]
theorem nC(A C:St)(r:bD):(A++C).look r=(A.look r).or (C.look r):=by
 induction A with
 |nil=>simp[St.look]
 |cons x A ih=>
  obtain⟨r',v⟩:=x
  simp only[List.cons_append,St.look]
  cases r'.beq r<;>simp[ih]
theorem wS(r r':bD)(v:SV):St.look [(r,v)] r'=if r=r' then some v else none:=by
 simp only[St.look]
 cases hb:r.beq r' with
 |true=>simp[bD.beq_iff.1 hb]
 |false=>
  have:¬(r=r'):=λe=>by simp[bD.beq_iff.2 e]at hb
  simp[this]
theorem z8{k k0:Wk}{v:SV}{W2:St}(hk:∀r,k.w.look r=(W2.look r).or (k0.w.look r))(r:bD):(b9 d o k v).w.look r=((fA d o v++W2).look r).or (k0.w.look r):=by
 rw[abI,nC,Ka,hk]
 split<;>simp
theorem wT{k:Wk}{r:bD}{v:SV}(r':bD):(k.w.set r v).look r'=(St.look [(r,v)] r').or (k.w.look r'):=by
 rw[wS]
 by_cases h:r=r'
 ·subst h;rw[St.bB];simp
 ·rw[St.cG _ _ h];simp[h]
theorem l7{x u:SV}{W:St}{r:bD}(h:(fA d o x++W).look r=some u):(∃n,o.dst=some n∧r=.t d n∧u=x)∨W.look r=some u:=by
 rw[nC,Ka]at h
 split at h
 ·rename_i he
  cases hd:o.dst with
  |none=>simp[hd]at he
  |some n=>
   simp[hd]at he
   simp at h
   exact .inl ⟨n,rfl,he.symm,h.symm⟩
 ·simp at h
  exact .inr h
theorem j8{r r':bD}{v u:SV}{W:St}(h:St.look ((r,v)::W) r'=some u):(r'=r∧u=v)∨W.look r'=some u:=by
 simp only[St.look]at h
 cases hb:r.beq r' with
 |true=>simp[hb]at h;exact .inl ⟨(bD.beq_iff.1 hb).symm,h.symm⟩
 |false=>simp[hb]at h;exact .inr h
theorem Kb{x:SV}{W:St}{n:Nat}(h:o.dst=some n):(fA d o x++W).look (.t d n)≠none:=by
 rw[nC,Ka,h];simp
def Gh.box(G:Gh)(b i:Nat):Gh:=
 {G with ω:=λc=>if c=b then some (.x i)else G.ω c,β:=λj=>if j=i then b else G.β j}
theorem abJ{s:St}(h:Rel M B d up s ρ G a w){b:Nat}(hb:w.heap.size<=b):G.ω b=none:=by
 cases ho:G.ω b with
 |none=>rfl
 |some l=>have:=(h.iO b l ho).2;omega
theorem FF(w:World)(o:Obj):jK w (w.alloc o):=⟨rfl,rfl,rfl⟩
theorem Sj{k:Wk}{G1:Gh}(h:Rel M B d up s ρ G a w)(hk:dy M B d up ρ G a w k G1)(hn:∀n,o.dst=some n->n<a.tmps.size)(hM:¬M k.ct.i)
  {arr:Array Value}{t:TypeId}{ag:Bool}{cs:List Ce}(lB:bn G1 w ρ cs arr.toList)(FG:∀i∈dN cs,M i)
  (hx:(execOp a.eval o).run P w=.ok (.value (.pointer (some ⟨w.heap.size,0,none⟩))) (w.alloc (.cells arr t))):
  bT P (Mn M k.ct.i (k.ct.i+1)) B d up ρ a w s o (b9 d o {(k.set (.x k.ct.i) (.v ag cs))with ct:=⟨k.ct.a,k.ct.i+1⟩} (.pt k.ct.i 0)).w Q:=by
 have hf:=abJ hk.rel (Nat.le_refl w.heap.size)
 have hK:dA (qC (fA d o (.pt k.ct.i 0)++[(.x k.ct.i,.v ag cs)])) (λi=>i=k.ct.i) G1 w (G1.box w.heap.size k.ct.i) (w.alloc (.cells arr t)):=by
  refine⟨by simp,λb hb h0=>?_,λb hb h0=>?_,λb l hb _=>?_,λi hi=>?_⟩
  ·have:b≠w.heap.size:=by omega
   exact⟨(Gh.xD (by simp[Gh.box,this])).trans h0,heap_alloc_old w _ b hb⟩
  ·have:b≠w.heap.size:=by omega
   simp[Gh.box,this,h0]
  ·have bE:=(hk.rel.iO b l hb).2
   have:b≠w.heap.size:=by omega
   exact⟨by simp[Gh.box,this,hb],heap_alloc_old w _ b bE⟩
  ·exact⟨by simp[Gh.box,hi],λ_ _=>rfl⟩
 have dI:∀i∈dN cs,¬(i=k.ct.i):=λi hi e=>hM (e▸FG i hi)
 simp only[bT,Oper.wp,hx,Oper.upon]
 refine⟨G1.box w.heap.size k.ct.i,J' h hk (W2:=fA d o (.pt k.ct.i 0)++[(.x k.ct.i,.v ag cs)]) (z8 (W2:=[(.x k.ct.i,.v ag cs)]) (k:={(k.set (.x k.ct.i) (.v ag cs))with ct:=⟨k.ct.a,k.ct.i+1⟩}) λr=>by exact wT (k:=k) (r:=.x k.ct.i) (v:=.v ag cs) r)
  hK (λi hi=>by subst hi;exact hM) (λi hi=>.inl hi) (λn qH=>Kb qH) (FF _ _) ?_,Cz _ _ _⟩
 have jd:Mn M k.ct.i (k.ct.i+1) k.ct.i:=.inr ⟨Nat.le_refl _,Nat.lt_succ_self _⟩
 refine⟨λe n u he hl=>?_,λb u hl=>?_,λi u hl=>?_,λr u hl i hi=>?_,λi hi=>?_,λb l hb=>?_⟩
 ·rcases l7 hl with⟨n',gO,e1,rfl⟩|hl
  ·cases e1
   rw[gO,RZ (hn _ gO)]
   simp[cL,Gh.box]
  ·rcases j8 hl with⟨e1,_⟩|hl
   ·cases e1
   ·cases hl
 ·rcases l7 hl with⟨n',gO,e1,rfl⟩|hl
  ·cases e1
  ·rcases j8 hl with⟨e1,rfl⟩|hl
   ·cases e1
    refine⟨by simp[Gh.box],arr,t,?_,lB.bp hK dI⟩
    simpa only[Gh.box,if_pos]using heap_alloc_new w (.cells arr t)
   ·cases hl
 ·rcases l7 hl with⟨n',gO,e1,rfl⟩|hl
  ·cases e1
  ·rcases j8 hl with⟨e1,rfl⟩|hl
   ·cases e1
   ·cases hl
 ·rcases l7 hl with⟨n',gO,e1,rfl⟩|hl
  ·simp[dt]at hi;subst hi;exact jd
  ·rcases j8 hl with⟨e1,rfl⟩|hl
   ·exact .inl (FG i hi)
   ·cases hl
 ·have:∀r:bD,(r=.x i∨r=.o i)->St.look (fA d o (.pt k.ct.i 0)++[(bD.x k.ct.i,SV.v ag cs)]) r≠none->i=k.ct.i:=by
   intro r hr hl
   obtain⟨u,hu⟩:=Option.ne_none_iff_exists'.1 hl
   rcases l7 hu with⟨n',gO,e1,rfl⟩|hl
   ·rcases hr with rfl|rfl<;>cases e1
   ·rcases j8 hl with⟨e1,rfl⟩|hl
    ·rcases hr with rfl|rfl
     ·cases e1;rfl
     ·cases e1
    ·cases hl
  rcases hi with hi|hi
  ·rw[this _ (.inl rfl) hi];exact jd
  ·rw[this _ (.inr rfl) hi];exact jd
 ·simp only[Gh.box]at hb
  split at hb
  ·rename_i he
   cases hb
   exact⟨jd,by simp[he]⟩
  ·obtain⟨h1,h2⟩:=hk.rel.iO b l hb
   exact⟨.inl h1,by simp;omega⟩
theorem abK(dW:ew P cx)(h:Rel M B d up s ρ G a w)(hn:∀n,o.dst=some n->n<a.tmps.size){t:Nat}(ho:o.op=.alloc t)
  (hk:jm cx cV ft d o oi ⟨s.only R,[],ct,[]⟩=some k')(hM:∀i,ct.i<=i->i<k'.ct.i->¬M i):bT P (Mn M ct.i k'.ct.i) B d up ρ a w s o k'.w Q:=by
 have hw:=dy.start h R ct
 simp only[jm,ho,cN,bF]at hk
 obtain⟨ti,fQ,hk⟩:=hk
 have cO:b9 d o {(Wk.set ⟨s.only R,[],ct,[]⟩ (.x ct.i) (.v ti.ag ti.zero))with ct:=⟨ct.a,ct.i+1⟩} (.pt ct.i 0)=k':=hk
 have qU:k'.ct.i=ct.i+1:=by rw[<-cO,oL]
 have hT:=dW.ty _ _ fQ
 obtain⟨i,z,hi,hs,_,hz,zR⟩:=hT.info
 obtain⟨wR,qG⟩:=J8 (G:=G) (w:=w) (ρ:=ρ) zR
 rw[qU,<-cO]
 refine Sj (arr:=z.cells) (t:=t) h hw hn (hM _ (Nat.le_refl _) (by simp only[qU];omega)) wR (λi hi=>by rw[qG]at hi;cases hi) ?_
 unfold execOp
 rw[ho]
 simp[Instr.alloc,zeroValue,typeInfo,hi,hz,newVar,newRow]
theorem abL(dW:ew P cx)(h:Rel M B d up s ρ G a w)(hn:∀n,o.dst=some n->n<a.tmps.size){t:Nat}{x:Operand}(ho:o.op=.box t x)
  (hk:jm cx cV ft d o oi ⟨s.only R,[],ct,[]⟩=some k')(hM:∀i,ct.i<=i->i<k'.ct.i->¬M i):bT P (Mn M ct.i k'.ct.i) B d up ρ a w s o k'.w Q:=by
 have hw:=dy.start h R ct
 simp only[jm,ho,cN]at hk
 obtain⟨ti,fQ,cs,lB,hk⟩:=hk
 cases hl:Nat.beq cs.length ti.sz with
 |false=>simp[hl]at hk
 |true=>
  simp only[hl,cond_true,bF]at hk
  have cO:b9 d o {(Wk.set ⟨s.only R,[],ct,[]⟩ (.x ct.i) (.v ti.ag cs))with ct:=⟨ct.a,ct.i+1⟩} (.pt ct.i 0)=k':=hk
  have qU:k'.ct.i=ct.i+1:=by rw[<-cO,oL]
  obtain⟨hr,hm⟩:=hw.jc x
  unfold cellsOf at lB
  split at lB
  ·rename_i ag es eD
   cases lB
   rw[eD]at hr hm
   rw[qU,<-cO]
   refine Sj (arr:=(a.eval x).cells) (t:=t) h hw hn (hM _ (Nat.le_refl _) (by simp only[qU];omega)) (Sh hr) hm ?_
   unfold execOp
   rw[ho]
   simp[Instr.box,newVar,newRow]
  ·cases lB
theorem Sk{k:Wk}{G1:Gh}(hk:dy M B d up ρ G a w k G1):∀(xs:List Operand) (bs:List Nat),
  (xs.mapM λx=>match cz d k.get x with| .pt b 0=>some b|_=>none)=some bs->xs.map a.eval=bs.map (λb=>Value.pointer (some ⟨G1.β b,0,none⟩))∧∀b∈bs,M b
 | [],bs,h=>by simp at h;subst h;exact⟨rfl,λ_ h=>by cases h⟩
 |x::xs,bs,h=>by
  simp only[List.mapM_cons,Option.pure_def,Option.bind_eq_bind,cN,bF]at h
  obtain⟨b,hb,z_,Sl,rfl⟩:=h
  obtain⟨h1,h2⟩:=Sk hk xs z_ Sl
  obtain⟨hr,hm⟩:=hk.jc x
  split at hb
  ·rename_i b' eD
   cases hb
   rw[eD]at hr hm
   refine⟨by simp only[List.map_cons,h1];rw[show a.eval x=_ from hr],λc hc=>?_⟩
   rcases List.mem_cons.1 hc with rfl|hc
   ·exact hm _ (by simp[dt])
   ·exact h2 c hc
  ·cases hb
theorem abM(h:Rel M B d up s ρ G a w)(hn:∀n,o.dst=some n->n<a.tmps.size){fn:Fn}{first zF:Array Operand}(ho:o.op=.makeFunc fn first zF)
  (hk:jm cx cV ft d o oi ⟨s.only R,[],ct,[]⟩=some k'):bT P M B d up ρ a w s o k'.w Q∧k'.ct.i=ct.i:=by
 have hw:=dy.start h R ct
 cases fn with
 |func f=>
  simp only[jm,ho]at hk
  cases he:first.isEmpty with
  |false=>simp[he]at hk
  |true=>
   simp only[he,cond_true,cN,bF]at hk
   obtain⟨bs,Sl,hk⟩:=hk
   have cO:b9 d o ⟨s.only R,[],ct,[]⟩ (.cl f bs)=k':=hk
   subst cO
   obtain⟨h1,h2⟩:=Sk hw _ bs Sl
   have Kc:first=#[]:=by simpa using he
   refine⟨tW h hw hn (x:=.cl f bs) (v:=.func (.func f) #[] (zF.map a.eval)) (Ew (x:=Instr.makeFunc (.func f) (first.map a.eval) (zF.map a.eval)) (by unfold execOp;rw[ho]) ?_) ?_ h2 Q,by rw[oL]⟩
   ·rw[Kc];simp[Instr.makeFunc]
   ·show _=_
    congr 1
    apply Array.ext'
    simpa using h1
 |_=>simp[jm,ho]at hk
end
end Go.Proofs.YtjimmglpkndemaaGreatC

/- The walk by reflection: a part of its laws, for any function. Conditions: none. -/
import Derived.Calls
import Derived.Orders
import Derived.Below
import Derived.KernelRfl
import Derived.Laws.OwnMore
import Derived.Laws.Cells
import Derived.Laws.IdiomCopy
import Derived.Laws.Small
import Derived.Laws.Entries
import Derived.Laws.StructEq
import Derived.Laws.BytesString
namespace Go.Proofs.YtbhplkilhknciaaC
theorem aJ.{u}{α:Type u}(a b:α):(some a=some b)=(a=b):=Option.some.injEq a b
theorem bB(a b:Bool):((a&&b)=true)=(a=true∧b=true):=Bool.and_eq_true a b
theorem bQ.{u,v}{α:Type u}{β:Type v}{x:Option α}{f:α->Option β}{b:β}:x.bind f=some b↔∃a,x=some a∧f a=some b:=Option.bind_eq_some_iff
theorem cK{n m:Nat}(h:Nat.beq n m=true):n=m:=Nat.eq_of_beq_eq_true h
theorem af{a b:Prop}(x:a)(y:b):a∧b:=⟨x,y⟩
theorem cA:(false=true)=False:=Bool.false_eq_true
set_option linter.unusedVariables false
inductive T where
 |c (v:Value)
 |l (xs:List (List T))
 deriving Inhabited
inductive Lf where
 |k (v:Value)
 |a (n:Nat)
 |e
inductive aM where
 |t (d n:Nat)
 |x (n:Nat)
 |o (n:Nat)
abbrev lh:=List (Lf×Nat×Nat)
inductive Ce where
 |p (x:Lf)
 |o (id:Nat) (q:lh)
 |n
 |d
inductive Pv where
 |z
 |w (tk:Nat) (x lo:Lf)
inductive SV where
 |un
 |v (ag:Bool) (cs:List Ce)
 |pt (bx off:Nat)
 |ep (id:Nat) (q:lh) (ix:Lf) (wd off:Nat)
 |fp (s ix:Lf) (wd off:Nat)
 |tp (vs:List (Bool×List Ce))
 |cl (f:Nat) (bs:List Nat)
 |ob (dp:Bool) (x:Lf)
 |fz (pv:Pv) (x:Lf)
 |tk (x m:Lf)
 |fl (x:Lf)
 |fr (x:Lf)
def aM.beq:aM->aM->Bool
 | .t d n,.t e m=>Nat.beq n m&&Nat.beq d e
 | .x n,.x m=>Nat.beq n m
 | .o n,.o m=>Nat.beq n m
 |_,_=>false
theorem aM.beq_iff{r s:aM}:r.beq s=true↔r=s:=by
 cases r<;>cases s<;>simp[aM.beq,and_comm]
instance:DecidableEq aM:=λr s=>if h:r.beq s=true then isTrue (aM.beq_iff.1 h)else isFalse λe=>h (aM.beq_iff.2 e)
abbrev St:=List (aM×SV)
def St.get(s:St)(r:aM):SV:=
 match s with
 | []=>.un
 |(r',v)::s=>bif r'.beq r then v else St.get s r
def St.set(s:St)(r:aM)(v:SV):St:=
 match s with
 | []=>[(r,v)]
 |(r',v')::s=>bif r'.beq r then(r,v)::s else(r',v')::St.set s r v
theorem St.bg(s:St)(r:aM)(v:SV):(s.set r v).get r=v:=by
 induction s with
 |nil=>simp[St.set,St.get,(aM.beq_iff).2 rfl]
 |cons x s ih=>
  obtain⟨r',v'⟩:=x
  cases h:r'.beq r with
  |true=>simp[St.set,St.get,h,(aM.beq_iff).2 rfl]
  |false=>simp[St.set,St.get,h,ih]
theorem St.c9(s:St){r r':aM}(v:SV)(h:r≠r'):(s.set r v).get r'=s.get r':=by
 have hb:r.beq r'=false:=by
  cases hh:r.beq r' with
  |false=>rfl
  |true=>exact absurd (aM.beq_iff.1 hh) h
 induction s with
 |nil=>simp[St.set,St.get,hb]
 |cons x s ih=>
  obtain⟨r2,v2⟩:=x
  cases h2:r2.beq r with
  |true=>
   have:=aM.beq_iff.1 h2
   subst this
   simp[St.set,St.get,h2,hb]
  |false=>
   cases h3:r2.beq r' with
   |true=>simp[St.set,St.get,h2,h3]
   |false=>simp[St.set,St.get,h2,h3,ih]
inductive Prim where
 |bin (op:BinOp)
 |bb (op:BinOp)
 |un (op:UnOp)
 |len
 |lens
 |ia
 |cell (w j:Nat)
 |bN (w j:Nat)
 |idx
 |sub (w:Nat) (lo hi:Bool)
 |uR (lo hi:Bool)
 |lit (w:Nat) (ms:List Bool)
 |app (sc:Bool) (w:Nat)
 |mk
 |put (sc:Bool) (w off n:Nat)
 |iX (ms:List Bool) (w off:Nat)
 |jj (w j:Nat)
 |sR (w j:Nat)
 |qV (ks:List Nat)
 |mx
 |mn
 |wR (k:IntKind)
 |pQ
 |str
 |byt
 |uS
 |rZ
inductive xq where
 |pr (p:Prim) (xs:List Lf)
 |cl (g:Nat) (xs:List Lf) (m:Nat)
inductive PL where
 |ret (xs:List Lf)
 |ins (i:xq) (k:PL)
 |ite (c:Nat) (x y:PL)
 |loop (xs:List Lf) (body:PL)
 |join (k:PL) (body:PL)
 |go (j:Nat) (xs:List Lf)
 |om (tag:Nat) (s:List St)
def T.bX:T:=.l []
def Lf.ev(ρ:List T):Lf->T
 | .k v=>.c v
 | .a n=>ρ.getD n T.bX
 | .e=>.l []
def qD:Nat:=4294967296
def gH(op:BinOp):Value->Value->Option Value
 | .int k a,.int k' b=>
  match op with
  | .shl=>if b<0 then none else some (.int k (k.wrap (a*2^(min b.toNat k.bits))))
  | .shr=>if b<0 then none else some (.int k (a.fdiv (2^(min b.toNat k.bits))))
  |op=>
  if k=k' then
   match op with
   | .and=>some (.int k (k.wrap ((BitVec.ofInt k.bits a&&&BitVec.ofInt k.bits b).toNat:Nat)))
   | .or=>some (.int k (k.wrap ((BitVec.ofInt k.bits a|||BitVec.ofInt k.bits b).toNat:Nat)))
   | .xor=>some (.int k (k.wrap ((BitVec.ofInt k.bits a^^^BitVec.ofInt k.bits b).toNat:Nat)))
   | .andNot=>some (.int k (k.wrap ((BitVec.ofInt k.bits a&&& ~~~BitVec.ofInt k.bits b).toNat:Nat)))
   | .add=>some (.int k (k.wrap (a+b)))
   | .sub=>some (.int k (k.wrap (a-b)))
   | .mul=>some (.int k (k.wrap (a*b)))
   | .quo=>if b=0 then none else some (.int k (k.wrap (a.tdiv b)))
   | .rem=>if b=0 then none else some (.int k (a.tmod b))
   | .eql=>some (.bool (a==b))
   | .neq=>some (.bool (a !=b))
   | .lss=>some (.bool (decide (a<b)))
   | .leq=>some (.bool (decide (a<=b)))
   | .gtr=>some (.bool (decide (a>b)))
   | .geq=>some (.bool (decide (a>=b)))
   |_=>none
  else none
 | .string a,.string b=>
  match op with
  | .add=>if a.size+b.size<qD then some (.string (a++b))else none
  | .eql=>some (.bool (a.toList==b.toList))
  | .neq=>some (.bool !(a.toList==b.toList))
  |_=>none
 |_,_=>none
def A3(op:BinOp):Value->Value->Option Value
 | .bool a,.bool b=>
  match op with
  | .eql=>some (.bool (a==b))
  | .neq=>some (.bool !(a==b))
  |_=>none
 |_,_=>none
def Np(op:UnOp):Value->Option Value
 | .bool a=>match op with| .not=>some (.bool !a)|_=>none
 | .int k a=>match op with| .neg=>some (.int k (k.wrap (0-a)))|_=>none
 |_=>none
def T.val:T->Option Value
 | .c v=>some v
 | .l _=>none
def T.int:T->Option Int
 | .c (.int _ n)=>some n
 |_=>none
def T.rows:T->Option (List (List T))
 | .l xs=>some xs
 |_=>none
def qW(s i:T):Option (List T):=
 s.rows.bind λxs=>i.int.bind λn=>if 0<=n then xs[n.toNat]? else none
def nW(w:Nat):Nat->List T->List (List T)
 |0,_=>[]
 |n+1,ts=>ts.take w::nW w n (ts.drop w)
def dr:T->Bool
 | .c (.int ..)| .c (.bool _)| .c (.string _)=>true
 |_=>false
def EQ:Nat->Value->Value->Option Bool
 |1,.int k a,.int k' b=>if k=k' then some (a==b)else none
 |4,.bool a,.bool b=>some (a==b)
 |2,.string a,.string b=>some (a==b)
 |_,_,_=>none
def r7:List Nat->List T->List T->Option Bool
 | [],[],[]=>some true
 |k::ks,.c x::xs,.c y::ys=>(EQ k x y).bind λb=>(r7 ks xs ys).bind λc=>some (b&&c)
 |_,_,_=>none
def setRow(xs:List (List T))(i off:Nat)(vs:List T):List (List T):=
 xs.modify i λr=>r.take off++vs++r.drop (off+vs.length)
def qX:List Bool->List T->Bool
 |true::ms,t::ts=>dr t&&qX ms ts
 |false::ms,_::ts=>qX ms ts
 |true::_,[]=>false
 |_,_=>true
def okW(w:Nat):List (List T)->Bool
 | []=>true
 |r::_=>Nat.beq r.length w
def uT(us:List (List T))(n k:Nat):Bool:=((us.drop n).take k).all λr=>!r.isEmpty
def z0(us:List (List T))(n k:Nat):List (List T):=us.take n++List.replicate k []++us.drop (n+k)
def GI:List T->Option Int
 | [.c (.int .u8 n)]=>some n
 |_=>none
def ER:List (List T)->Option (List Int)
 | []=>some []
 |r::rs=>(GI r).bind λn=>(ER rs).bind λns=>some (n::ns)
def uU(ns:List Int):ByteArray:=⟨(ns.map λn=>UInt8.ofNat n.toNat).toArray⟩
def Prim.ev:Prim->List T->Option T
 | .bin op,[x,y]=>x.val.bind λa=>y.val.bind λb=>(gH op a b).bind λr=>some (.c r)
 | .bb op,[x,y]=>x.val.bind λa=>y.val.bind λb=>(A3 op a b).bind λr=>some (.c r)
 | .un op,[x]=>x.val.bind λa=>(Np op a).bind λr=>some (.c r)
 | .len,[.l xs]=>some (.c (.int .i64 xs.length))
 | .lens,[.c (.string s)]=>some (.c (.int .i64 s.size))
 | .ia,[s,i]=>(qW s i).bind λ_=>some (.c (.bool true))
 | .cell w j,[s,i]=>(qW s i).bind λr=>if r.length=w then r[j]? else none
 | .bN w j,[s,i]=>(qW s i).bind λr=>if r.length=w then(r[j]?).bind λt=>if dr t=true then some t else none else none
 | .idx,[.c (.string s),.c (.int _ n)]=>if 0<=n then(if h:n.toNat<s.size then some (.c (.int .u8 (s.get n.toNat h).toNat))else none)else none
 | .sub w lo hi,.l xs::ts=>if okW w xs=true then
  (match lo,hi,ts with
   |false,false,[]=>some (0,(xs.length:Int))
   |true,false,[.c (.int _ l)]=>some (l,(xs.length:Int))
   |false,true,[.c (.int _ h)]=>some (0,h)
   |true,true,[.c (.int _ l),.c (.int _ h)]=>some (l,h)
   |_,_,_=>none).bind λ(l,h)=>
   if 0<=l then(if l<=h then(if h<=xs.length then some (.l ((xs.take h.toNat).drop l.toNat))else none)else none)else none
  else none
 | .uR lo hi,.c (.string s)::ts=>
  (match lo,hi,ts with
   |false,false,[]=>some (0,(s.size:Int))
   |true,false,[.c (.int _ l)]=>some (l,(s.size:Int))
   |false,true,[.c (.int _ h)]=>some (0,h)
   |true,true,[.c (.int _ l),.c (.int _ h)]=>some (l,h)
   |_,_,_=>none).bind λ(l,h)=>
   if 0<=l then(if l<=h then(if h<=s.size then some (.c (.string (s.extract l.toNat h.toNat)))else none)else none)else none
 | .lit w ms,ts=>if 0<w then(if qX ms ts=true then some (.l (nW w (ts.length/w) ts))else none)else none
 | .app sc w,[.l xs,.l ys]=>if xs.length+ys.length<qD then(if(!sc||ys.all (·.all dr))=true then(if okW w xs=true then(if okW w ys=true then some (.l (xs++ys))else none)else none)else none)else none
 | .mk,.c (.int _ n):: .c (.int _ c)::ts=>if 0<=n then(if n=c then(if c<qD then some (.l (List.replicate n.toNat ts))else none)else none)else none
 | .put sc w off n,s::i::vs=>(qW s i).bind λr=>if r.length=w then(if off+n<=w then(if vs.length=n then(if(!sc||vs.all dr)=true then
   s.rows.bind λxs=>i.int.bind λk=>some (.l (setRow xs k.toNat off vs))else none)else none)else none)else none
 | .iX ms w off,s::i::vs=>(qW s i).bind λr=>if r.length=w then(if off+vs.length<=w then(if qX ms vs=true then
   s.rows.bind λxs=>i.int.bind λk=>some (.l (setRow xs k.toNat off vs))else none)else none)else none
 | .jj w j,[s,i]=>(qW s i).bind λr=>if r.length=w then(r[j]?).bind λt=>t.rows.bind λxs=>some (.l xs)else none
 | .sR w j,[s,i,v]=>(qW s i).bind λr=>if r.length=w then(if j<w then
   s.rows.bind λxs=>i.int.bind λk=>some (.l (setRow xs k.toNat j [v]))else none)else none
 | .qV ks,ts=>(r7 ks (ts.take ks.length) (ts.drop ks.length)).bind λb=>some (.c (.bool b))
 | .mx,[.c (.int k a),.c (.int _ b)]=>some (.c (.int k (if b>a then b else a)))
 | .mn,[.c (.int k a),.c (.int _ b)]=>some (.c (.int k (if b<a then b else a)))
 | .pQ,[t]=>if dr t=true then some t else none
 | .uS,[.l us,.c (.int _ n)]=>if 0<=n then(if n.toNat+1<=us.length then(if uT us n.toNat 1=true then some (.l (z0 us n.toNat 1))else none)else none)else none
 | .rZ,[.l us,.c (.int _ n),.l ys]=>if 0<=n then(if n.toNat+ys.length<=us.length then(if uT us n.toNat ys.length=true then some (.l (z0 us n.toNat ys.length))else none)else none)else none
 | .wR k,[.c (.int _ n)]=>some (.c (.int k (k.wrap n)))
 | .str,[.l xs]=>(ER xs).bind λns=>some (.c (.string (uU ns)))
 |_,_=>none
def pA(ts:List T):Nat->Nat->List T
 |_,0=>[]
 |i,m+1=>ts.getD i T.bX::pA ts (i+1) m
abbrev ay:=List T->Option (List T)
def xq.ev(S:Nat->ay)(ρ:List T):xq->Option (List T)
 | .pr p xs=>(p.ev (xs.map (Lf.ev ρ))).bind λt=>some [t]
 | .cl g xs m=>(S g (xs.map (Lf.ev ρ))).bind λts=>some (pA ts 0 m)
def iter{α β:Type}(F:(α->Option β)->α->Option β):Nat->α->Option β
 |0,_=>none
 |n+1,x=>F (iter F n) x
def rounds:Nat:=1099511627776
def PL.den(S:Nat->ay)(R:Nat)(K:List ay)(ρ:List T):PL->Option (List T)
 | .ret xs=>some (xs.map (Lf.ev ρ))
 | .ins (.pr p xs) k=>(p.ev (xs.map (Lf.ev ρ))).bind λt=>k.den S R K (ρ++[t])
 | .ins (.cl g xs m) k=>(S g (xs.map (Lf.ev ρ))).bind λts=>k.den S R K (ρ++pA ts 0 m)
 | .ite c x y=>match ρ.getD c T.bX with
  | .c (.bool b)=>bif b then x.den S R K ρ else y.den S R K ρ
  |_=>none
 | .loop xs body=>iter (λself ts=>body.den S R (self::K) (ρ++ts)) R (xs.map (Lf.ev ρ))
 | .join k body=>body.den S R ((λts=>k.den S R K (ρ++ts))::K) ρ
 | .go j xs=>match K[j]? with
  |some f=>f (xs.map (Lf.ev ρ))
  |none=>none
 | .om _ _=>none
structure TI where
 sz:Nat
 bytes:Nat
 ag:Bool
 zero:List Ce
 el:Nat
 fs:List (Nat×Nat)
 kd:Nat
inductive Ck where
 |s
 |p
 |o (dp:Bool)
inductive PS where
 |v (ag:Bool) (n:Nat)
 |x (n:Nat)
structure lV where
 ps:List PS
 rs:List (Bool×List Ck)
structure Ct where
 a:Nat
 i:Nat
abbrev gV:=List (Nat×Bool)
def fact(fs:gV)(n:Nat):Option Bool:=
 match fs with
 | []=>none
 |(m,b)::fs=>bif Nat.beq m n then some b else fact fs n
inductive Cj where
 |k
 |p
 |o (dp:Bool)
 |d
inductive Rj where
 |drop
 |aO (ag:Bool) (cs:List Cj)
 |rows (js:List (Nat×Bool))
abbrev Js:=List (Nat×Bool×Rj)
structure Cx where
 ty:Nat->Option TI
 sg:Nat->Option lV
 fn:Nat->Option Func
 n7:Nat->Nat->Nat->Option Js
 fz:Nat->Nat->Nat->Bool
 nest:Nat->Bool
def ib:Value->Bool
 | .int .. | .bool _| .string _=>true
 |_=>false
def uV:Value->SV
 | .slice none 0 0=>.v false [.n]
 |v=>bif ib v then .v false [.p (.k v)]else .un
def bz(d:Nat)(s:aM->SV):Operand->SV
 | .tmp t=>s (.t d t)
 | .const v=>uV v
 | .func f=>.cl f []
 | .global _=>.un
def cellsOf:SV->Option (List Ce)
 | .v _ cs=>some cs
 |_=>none
def Lf.beq:Lf->Lf->Bool
 | .a n,.a m=>Nat.beq n m
 | .e,.e=>true
 | .k (.int k1 n),.k (.int k2 m)=>decide (k1=k2)&&decide (n=m)
 | .k (.bool b1),.k (.bool b2)=>b1==b2
 | .k (.string s1),.k (.string s2)=>s1.data.toList==s2.data.toList
 |_,_=>false
structure Wk where
 r:St
 w:St
 ct:Ct
 is:List xq
def St.look(s:St)(r:aM):Option SV:=
 match s with
 | []=>none
 |(r',v)::s=>bif r'.beq r then some v else St.look s r
def Wk.get(k:Wk)(r:aM):SV:=
 match k.w.look r with
 |some v=>v
 |none=>k.r.get r
def Wk.em(k:Wk)(p:Prim)(xs:List Lf):Wk×Lf:=({k with ct:=⟨k.ct.a+1,k.ct.i⟩,is:=.pr p xs::k.is},.a k.ct.a)
def Wk.set(k:Wk)(r:aM)(v:SV):Wk:={k with w:=k.w.set r v}
def Wk.down(k:Wk)(x:Lf):lh->Wk×Lf
 | []=>(k,x)
 |(ix,w,j)::q=>
  let(k,y):=k.em (.jj w j) [x,ix]
  Wk.down k y q
def Wk.up(k:Wk)(x y:Lf):lh->Wk×Lf
 | []=>(k,y)
 |(ix,w,j)::q=>
  let(k,z):=k.em (.jj w j) [x,ix]
  let(k,z):=Wk.up k z y q
  k.em (.sR w j) [x,ix,z]
def Wk.val(k:Wk):Ce->Option (Wk×Lf)
 | .p x=>some (k,x)
 | .n=>some (k,.e)
 | .o id q=>
  match k.get (.o id)with
  | .ob true x=>some (k.down x q)
  | .ob false x| .fz _ x| .fl x=>match q with
   | []=>some (k,x)
   |_=>none
  |_=>none
 | .d=>none
def Wk.gv(k:Wk):List Ce->Option (Wk×List Lf)
 | []=>some (k,[])
 |c::cs=>(k.val c).bind λ(k,x)=>(Wk.gv k cs).bind λ(k,xs)=>some (k,x::xs)
def Wk.one(k:Wk):SV->Option (Wk×Lf)
 | .v false [c]=>k.val c
 |_=>none
def Wk.jY(k:Wk)(id:Nat):Option Wk:=
 match k.get (.o id)with
 | .ob _ x=>some (k.set (.o id) (.fz .z x))
 | .fz _ _=>some k
 |_=>none
def Wk.flat(k:Wk)(id:Nat):Option Wk:=
 match k.get (.o id)with
 | .ob _ x=>some (k.set (.o id) (.ob false x))
 | .fz _ _=>some k
 |_=>none
def Wk.dg(k:Wk):List Ce->Option Wk
 | []=>some k
 | .o id _::cs=>(k.jY id).bind λk=>Wk.dg k cs
 |_::cs=>Wk.dg k cs
def dS:Ce->Bool
 | .n=>true
 |_=>false
def Wk.eh(k:Wk)(fz:Bool):List Ce->List Ce->Option (Wk×List Lf×Bool)
 | [],[]=>some (k,[],true)
 |z::zs,.p x::cs=>(Wk.eh k fz zs cs).bind λ(k,xs,dp)=>some (k,x::xs,dp&& !dS z)
 |z::zs,.n::cs=>(Wk.eh k fz zs cs).bind λ(k,xs,dp)=>some (k,.e::xs,dp)
 |z::zs,.o id []::cs=>
  match k.get (.o id)with
  | .fz _ x=>(Wk.eh k fz zs cs).bind λ(k,xs,dp)=>some (k,x::xs,false)
  | .ob d x=>
   bif fz then(Wk.eh (k.set (.o id) (.fz .z x)) fz zs cs).bind λ(k,xs,dp)=>some (k,x::xs,false)
   else bif d then(Wk.eh (k.set (.o id) .un) fz zs cs).bind λ(k,xs,dp)=>some (k,x::xs,dp)
   else(Wk.eh (k.set (.o id) (.fz .z x)) fz zs cs).bind λ(k,xs,dp)=>some (k,x::xs,false)
  |_=>none
 |_,_=>none
def Wk.bd(k:Wk):List Ce->List Ce->Option (Wk×List Lf)
 | [],[]=>some (k,[])
 |z::zs,.p x::cs=>bif dS z then none else(Wk.bd k zs cs).bind λ(k,xs)=>some (k,x::xs)
 |z::zs,.n::cs=>(Wk.bd k zs cs).bind λ(k,xs)=>some (k,.e::xs)
 |z::zs,.o id []::cs=>
  match k.get (.o id)with
  | .ob true x| .fl x=>(Wk.bd (k.set (.o id) .un) zs cs).bind λ(k,xs)=>some (k,x::xs)
  |_=>none
 |_,_=>none
def Wk.alias(k0:Wk):Wk->List Ce->Wk
 |k,[]=>k
 |k,.o id []::cs=>
  match k0.get (.o id)with
  | .ob true x=>Wk.alias k0 (k.set (.o id) (.fz .z x)) cs
  |_=>Wk.alias k0 k cs
 |k,_::cs=>Wk.alias k0 k cs
def Wk.oI(k:Wk)(fz:Bool)(zs cs:List Ce):Option (Wk×List Lf×Bool):=
 match(bif fz then none else k.bd zs cs)with
 |some (k1,xs)=>some (Wk.alias k k1 cs,xs,true)
 |none=>k.eh true zs cs
def eI(cs:List Ce)(off:Nat)(vs:List Ce):List Ce:=cs.take off++vs++cs.drop (off+vs.length)
def Wk.row(k:Wk)(sc:Bool)(s ix:Lf)(w off:Nat):Nat->Wk×List Ce
 |0=>(k,[])
 |n+1=>
  let(k,y):=k.em (bif sc then .bN w off else .cell w off) [s,ix]
  let(k,cs):=Wk.row k sc s ix w (off+1) n
  (k,.p y::cs)
def Wk.mS(k:Wk)(y ix:Lf)(id:Nat)(q:lh)(w off:Nat):List Ce->Wk×List Ce
 | []=>(k,[])
 |z::zs=>
  bif dS z then
   let r:=Wk.mS (k.em (.jj w off) [y,ix]).1 y ix id q w (off+1) zs
   (r.1,.o id (q++[(ix,w,off)])::r.2)
  else
   let r:=Wk.mS (k.em (.bN w off) [y,ix]).1 y ix id q w (off+1) zs
   (r.1,.p (k.em (.bN w off) [y,ix]).2::r.2)
def storeAt(cx:Cx)(k:Wk)(t:Nat)(ad v:SV):Option Wk:=
 (cx.ty t).bind λti=>(cellsOf v).bind λcs=>
 bif Nat.beq cs.length ti.sz then
  match ad with
  | .pt bx off=>
   match k.get (.x bx)with
   | .v ag uW=>bif Nat.ble (off+cs.length) uW.length then some (k.set (.x bx) (.v ag (eI uW off cs)))else none
   |_=>none
  | .ep id q ix w off=>
   bif Nat.beq (id%4) 2 then none else
   bif ti.zero.any dS then
    match q with
    | []=>(k.flat id).bind λk=>(k.dg cs).bind λk=>(k.gv cs).bind λ(k,xs)=>
     match k.get (.o id)with
     | .ob _ x=>
      let(k,y):=k.em (.put false w off xs.length) (x::ix::xs)
      some (k.set (.o id) (.ob false y))
     |_=>none
    |_=>none
   else(k.gv cs).bind λ(k,xs)=>
    match k.get (.o id)with
    | .ob dp x=>
     bif dp||q.isEmpty then
      let(k,y):=k.down x q
      let(k,y):=k.em (.put true w off xs.length) (y::ix::xs)
      let(k,y):=k.up x y q
      some (k.set (.o id) (.ob dp y))
     else none
    |_=>none
  |_=>none
 else none
def A4(cx:Cx)(k:Wk)(t:Nat)(ad v:SV):Option Wk:=
 match ad with
 | .ep id [] ix w off=>
  (cx.ty t).bind λti=>(cellsOf v).bind λcs=>
  bif Nat.beq cs.length ti.sz&&ti.zero.any dS&&Nat.beq (id%4) 0 then
   match k.get (.o id)with
   | .ob true x=>(k.bd ti.zero cs).bind λ(k2,xs)=>
    match k2.get (.o id)with
    | .ob true _=>
     let(k3,y):=k2.em (.iX (ti.zero.map λz=>!dS z) w off) (x::ix::xs)
     some (k3.set (.o id) (.ob true y))
    |_=>none
   |_=>none
  else none
 |_=>none
def loadAt(cx:Cx)(nest:Bool)(k:Wk)(t:Nat):SV->Option (Wk×SV)
 | .pt bx off=>(cx.ty t).bind λti=>
  match k.get (.x bx)with
  | .v _ cs=>bif Nat.ble (off+ti.sz) cs.length then some (k,.v ti.ag ((cs.drop off).take ti.sz))else none
  |_=>none
 | .fp s ix w off=>(cx.ty t).bind λti=>
  let(k,cs):=k.row false s ix w off ti.sz
  some (k,.v ti.ag cs)
 | .ep id q ix w off=>(cx.ty t).bind λti=>
  match k.get (.o id)with
  | .ob true x=>
   bif nest&&ti.zero.any dS&&Nat.beq ti.zero.length ti.sz&&Nat.beq (id%2) 1 then
    let(k,y):=k.down x q
    let(k,cs):=k.mS y ix id q w off ti.zero
    some (k,.v ti.ag cs)
   else bif ti.zero.any dS then
    match q with
    | []=>bif Nat.beq (id%2) 0 then
      let(k,cs):=k.row false x ix w off ti.sz
      some (k,.v ti.ag cs)
     else(k.flat id).bind λk=>
     let(k,cs):=k.row false x ix w off ti.sz
     some (k,.v ti.ag cs)
    |_=>none
   else
    let(k,y):=k.down x q
    let(k,cs):=k.row true y ix w off ti.sz
    some (k,.v ti.ag cs)
  | .ob false x| .fz _ x=>
   match q with
   | []=>
    let(k,cs):=k.row false x ix w off ti.sz
    some (k,.v ti.ag cs)
   |_=>none
  |_=>none
 |_=>none
def lN(i:Nat):Nat:=i+(1-i%2)
def dy(i:Nat):Nat:=i+(4-i%4)%4
def li(i:Nat):Nat:=i+(6-i%4)%4
theorem A5(i:Nat):i<=lN i:=by unfold lN;omega
theorem uX(i:Nat):i<=dy i:=by unfold dy;omega
theorem GJ(i:Nat):i<=li i:=by unfold li;omega
theorem GK(i:Nat):li i%4=2:=by unfold li;omega
def z5:Lf->Bool
 | .k (.int _ n)=>decide (n=0)
 |_=>false
def Wk.km(k:Wk)(y ix:Lf)(j:Nat)(w off:Nat):List Ce->Wk×List Ce×Lf
 | []=>(k,[],.e)
 |z::zs=>
  bif dS z then
   let r:=Wk.km (k.em (.jj w off) [y,ix]).1 y ix j w (off+1) zs
   (r.1,.o j []::r.2.1,(k.em (.jj w off) [y,ix]).2)
  else
   let r:=Wk.km (k.em (.bN w off) [y,ix]).1 y ix j w (off+1) zs
   (r.1,.p (k.em (.bN w off) [y,ix]).2::r.2.1,r.2.2)
def A6(cx:Cx)(k:Wk)(t:Nat):SV->Option (Wk×SV)
 | .ep id [] ix w off=>(cx.ty t).bind λti=>
  match k.get (.o id)with
  | .fz (.w tk x0 lo) x=>
   match k.get (.o tk)with
   | .tk y0 m=>
    bif z5 lo&&x0.beq y0&&Nat.beq (ti.zero.filter dS).length 1&&Nat.beq ti.zero.length ti.sz then
     let j:=li k.ct.i
     let r:=k.km x ix j w off ti.zero
     let q:=r.1.em .uS [m,ix]
     some ({((q.1.set (.o tk) (.tk y0 q.2)).set (.o j) (.fl r.2.2))with ct:=⟨q.1.ct.a,j+1⟩},.v ti.ag r.2.1)
    else none
   |_=>none
  |_=>none
 |_=>none
def indexAt(cx:Cx)(k:Wk)(t:Nat)(s ix:SV):Option (Wk×SV):=
 (cx.ty t).bind λti=>(cx.ty ti.el).bind λte=>
 bif Nat.beq ti.kd 3 then
  (k.one ix).bind λ(k,i)=>
   match s with
   | .v false [.p x]=>
    let(k,_):=k.em .ia [x,i]
    some (k,.fp x i te.sz 0)
   | .v false [.o id q]=>
    match k.get (.o id),q with
    | .ob true x,q=>
     let(k,y):=k.down x q
     let(k,_):=k.em .ia [y,i]
     some (k,.ep id q i te.sz 0)
    | .ob false x,[]=>
     let(k,_):=k.em .ia [x,i]
     some (k,.ep id [] i te.sz 0)
    | .fz (.w tk x0 lo) x,[]=>
     let(k,_):=k.em .ia [x,i]
     bif z5 lo then some (k,.ep id [] i te.sz 0)else some (k,.fp x i te.sz 0)
    | .fz _ x,[]=>
     let(k,_):=k.em .ia [x,i]
     some (k,.fp x i te.sz 0)
    |_,_=>none
   |_=>none
 else none
def fieldAt(cx:Cx)(t f:Nat):SV->Option SV
 | .pt bx off=>(cx.ty t).bind λti=>(ti.fs[f]?).bind λo=>some (.pt bx (off+o.1))
 | .ep id q ix w off=>(cx.ty t).bind λti=>(ti.fs[f]?).bind λo=>some (.ep id q ix w (off+o.1))
 | .fp s ix w off=>(cx.ty t).bind λti=>(ti.fs[f]?).bind λo=>some (.fp s ix w (off+o.1))
 |_=>none
def Wk.args(k:Wk):List SV->List PS->Option (Wk×List Lf×List (Nat×Bool×Nat))
 | [],[]=>some (k,[],[])
 | .v ag cs::vs,.v r8 n::ps=>
  bif (ag==r8)&&Nat.beq cs.length n then
   (k.gv cs).bind λ(k,xs)=>(Wk.args k vs ps).bind λ(k,ys,bs)=>some (k,xs++ys,bs)
  else none
 | .pt bx 0::vs,.x n::ps=>
  match k.get (.x bx)with
  | .v ag cs=>
   bif Nat.beq cs.length n then
    (k.dg cs).bind λk=>(k.gv cs).bind λ(k,xs)=>(Wk.args k vs ps).bind λ(k,ys,bs)=>some (k,xs++ys,(bx,ag,n)::bs)
   else none
  |_=>none
 |_,_=>none
def xr:SV->List Ce
 | .v _ cs=>cs
 |_=>[]
def qY:List SV->List Ce
 | []=>[]
 |v::vs=>xr v++qY vs
def nr(sg:lV):Bool:=sg.rs.any (λr=>r.2.any λ | .p| .o false=>true|_=>false)||sg.ps.any λ | .x _=>true|_=>false
def ei:Ct->List Ck->Ct×List Ce×St
 |ct,[]=>(ct,[],[])
 |ct,.o dp::ks=>
  let r:=ei ⟨ct.a+1,lN ct.i+1⟩ ks
  (r.1,.o (lN ct.i) []::r.2.1,(.o (lN ct.i),.ob dp (.a ct.a))::r.2.2)
 |ct,_::ks=>
  let r:=ei ⟨ct.a+1,ct.i⟩ ks
  (r.1,.p (.a ct.a)::r.2.1,r.2.2)
def lW:Ct->List (Bool×List Ck)->Ct×List (Bool×List Ce)×St
 |ct,[]=>(ct,[],[])
 |ct,r::rs=>
  let x:=ei ct r.2
  let y:=lW x.1 rs
  (y.1,(r.1,x.2.1)::y.2.1,x.2.2++y.2.2)
def wS(a:Nat):Nat->List Ce
 |0=>[]
 |n+1=>.p (.a a)::wS (a+1) n
def pR:Nat->List (Nat×Bool×Nat)->Nat×St
 |a,[]=>(a,[])
 |a,(bx,ag,n)::bs=>
  let r:=pR (a+n) bs
  (r.1,(.x bx,.v ag (wS a n))::r.2)
def z6:List (Bool×List Ce)->SV
 | []=>.un
 | [v]=>.v v.1 v.2
 |vs=>.tp vs
def A7:List Nat->Bool
 | []=>true
 |x::xs=>!(xs.any (Nat.beq x))&&A7 xs
def GL(k:Wk)(d:Nat)(dst:Option Nat)(g:Nat)(sg:lV)(vs:List SV):Option Wk:=
 (bif nr sg then k.dg (qY vs)else some k).bind λk=>
 (k.args vs sg.ps).bind λ(k,xs,bs)=>
 bif A7 (bs.map (·.1))then
  let r:=lW k.ct sg.rs
  let b:=pR r.1.a bs
  let dw:St:=match dst with|some n=>[(.t d n,z6 r.2.1)]|none=>[]
  some {r:=k.r,w:=(dw++(r.2.2++b.2))++k.w,ct:=⟨b.1,r.1.i⟩,is:=.cl g xs (b.1-k.ct.a)::k.is}
 else none
def sS(cs:List Ce):List (Nat×List Ce)->Option (List Ce)
 | []=>some cs
 |(off,vs)::ps=>bif Nat.ble (off+vs.length) cs.length then sS (eI cs off vs) ps else none
def parts(d:Nat)(s:aM->SV)(fs:List (Nat×Nat)):List (Nat×Operand)->Option (List (Nat×List Ce))
 | []=>some []
 |(f,x)::ps=>(fs[f]?).bind λo=>(cellsOf (bz d s x)).bind λcs=>bif Nat.beq cs.length o.2 then(parts d s fs ps).bind λl=>some ((o.1,cs)::l)else none
def jZ:Ce->Nat
 | .p (.k (.int _ _))=>1
 | .p (.k (.string _))=>2
 | .p (.k (.bool _))=>4
 |_=>0
def GM(k:Wk)(op:BinOp)(ks:List Nat)(xs ys:List Ce):Option (Wk×Lf):=
 (k.gv xs).bind λ(k,xs)=>(k.gv ys).bind λ(k,ys)=>
  let(k,r):=k.em (.qV ks) (xs++ys)
  match op with
  | .eql=>some (k,r)
  | .neq=>some (k.em (.un .not) [r])
  |_=>none
def lq(zs:List Ce):Nat->List Ce
 |0=>[]
 |n+1=>zs++lq zs n
def A8(k:Wk):SV->Option (Wk×Lf×Bool)
 | .v false [.n]=>some (k,.e,true)
 | .v false [.o id []]=>
  match k.get (.o id)with
  | .ob dp x=>bif Nat.beq (id%4) 2 then none else some (k.set (.o id) .un,x,dp)
  |_=>none
 |_=>none
def Wk.eJ(k:Wk):SV->Option Wk
 | .v false [.o j []]=>
  match k.get (.o j)with
  | .fz (.w tk x0 lo) y=>
   match k.get (.o tk)with
   | .tk y0 m=>bif x0.beq y0&&Nat.beq (j%4) 0 then
     let r:=k.em .rZ [m,lo,y]
     some ((r.1.set (.o tk) (.tk y0 r.2)).set (.o j) (.fr y))
    else none
   |_=>none
  |_=>none
 |_=>none
def Wk.qZ(k:Wk)(b:Bool)(v:SV):Wk:=
 match(bif b then k.eJ v else none)with
 |some k'=>k'
 |none=>k
def uY(sl fz:Bool)(k:Wk):SV->Option (Wk×Lf×Bool)
 | .v false [.n]=>some (k,.e,true)
 | .v false [.p x]=>some (k,x,!sl)
 | .v false [.o id q]=>
  bif sl then
   match k.get (.o id),q with
   | .ob dp x,[]=>bif dp&& !fz then some (k.set (.o id) .un,x,true)else some (k.set (.o id) (.ob false x),x,false)
   | .fz _ x,[]=>some (k,x,false)
   | .fr x,[]=>bif fz then none else some (k.set (.o id) .un,x,true)
   |_,_=>none
  else(k.val (.o id q)).bind λr=>some (r.1,r.2,true)
 |_=>none
def A9(k:Wk)(sl:Bool)(w:Nat)(x y:SV):Option (Wk×Lf):=
 match x with
 | .v false [.o id (s::q)]=>
  match k.get (.o id)with
  | .ob true v=>
   bif sl then none else
    (Wk.one (k.down v (s::q)).1 y).bind λb=>
     some ((b.1.em (.app true w) [(k.down v (s::q)).2,b.2]).1.set (.o id) (.ob false v),(b.1.em (.app true w) [(k.down v (s::q)).2,b.2]).2)
  |_=>none
 |_=>none
def uZ(cx:Cx)(k:Wk)(t:Nat)(x:SV)(lo hi:Option SV):Option (Wk×SV):=
 match x with
 | .v false [.o id []]=>
  match k.get (.o id)with
  | .fz (.w tk x0 l0) y=>
   (cx.ty t).bind λti=>(cx.ty ti.el).bind λte=>
   bif Nat.beq ti.kd 3&&z5 l0 then
    (match lo with
     |none=>some (k,[])
     |some l=>(k.one l).bind λ(k,l)=>some (k,[l])).bind λ(k,ls)=>
    (match hi with
     |none=>some (k,[])
     |some h=>(k.one h).bind λ(k,h)=>some (k,[h])).bind λ(k,hs)=>
    let r:=k.em (.sub te.sz lo.isSome hi.isSome) (y::(ls++hs))
    let j:=dy k.ct.i
    some ({(r.1.set (.o j) (.fz (.w tk x0 (ls.headD (.k (.int .i64 0)))) r.2))with ct:=⟨r.1.ct.a,j+1⟩},.v false [.o j []])
   else none
  |_=>none
 |_=>none
def gb(cx:Cx)(bW dR:Nat)(d:Nat)(o:Oper)(oi:Nat)(k:Wk):Option Wk:=
 let put (k:Wk) (v:SV):Wk:=match o.dst with|some n=>k.set (.t d n) v|none=>k
 let one (x:Operand):SV:=bz d k.get x
 let lf (r:Wk×Lf):Option Wk:=some (put r.1 (.v false [.p r.2]))
 match o.op with
 | .move x| .assign x=>some (put k (one x))
 | .alloc t=>(cx.ty t).bind λti=>some (put {(k.set (.x k.ct.i) (.v ti.ag ti.zero))with ct:=⟨k.ct.a,k.ct.i+1⟩} (.pt k.ct.i 0))
 | .box t x=>(cx.ty t).bind λti=>(cellsOf (one x)).bind λcs=>
   bif Nat.beq cs.length ti.sz then some (put {(k.set (.x k.ct.i) (.v ti.ag cs))with ct:=⟨k.ct.a,k.ct.i+1⟩} (.pt k.ct.i 0))else none
 | .build t ps=>(cx.ty t).bind λti=>bif ti.ag then(parts d k.get ti.fs ps.toList).bind λl=>(sS ti.zero l).bind λcs=>some (put k (.v true cs))else none
 | .buildSlice t n ps=>(cx.ty t).bind λti=>(cx.ty ti.el).bind λte=>bif Nat.beq ti.kd 3&&Nat.ble (n*te.sz) 65536&&Nat.blt 0 te.sz then
   (parts d k.get ((List.range n).map λi=>(i*te.sz,te.sz)) ps.toList).bind λl=>(sS (lq te.zero n) l).bind λcs=>
    (k.oI (cx.fz bW dR oi) (lq te.zero n) cs).bind λ(k,xs,dp)=>
     let(k,y):=k.em (.lit te.sz (bif dp then(lq te.zero n).map (λz=>!dS z)else [])) xs
     let id:=dy k.ct.i
     some (put {(k.set (.o id) (.ob dp y))with ct:=⟨k.ct.a,id+1⟩} (.v false [.o id []]))
   else none
 | .makeSlice t l c=>(cx.ty t).bind λti=>(cx.ty ti.el).bind λte=>(k.one (one l)).bind λ(k,n)=>(k.one (one c)).bind λ(k,m)=>
   (k.gv te.zero).bind λ(k,zs)=>bif Nat.beq ti.kd 3&&Nat.ble te.bytes 65536&&Nat.blt 0 te.sz then
    let(k,y):=k.em .mk (n::m::zs)
    let id:=dy k.ct.i
    some (put {(k.set (.o id) (.ob true y))with ct:=⟨k.ct.a,id+1⟩} (.v false [.o id []]))
   else none
 | .load t a=>(match(bif cx.fz bW dR oi then A6 cx k t (one a)else none)with|some r=>some r|none=>loadAt cx (cx.nest bW) k t (one a)).bind λ(k,v)=>some (put k v)
 | .store t a x=>(match(bif cx.fz bW dR oi then none else A4 cx k t (one a) (one x))with|some k=>some k|none=>storeAt cx k t (one a) (one x)).bind λk=>some (put k .un)
 | .nilCheck x=>match one x with
   | .pt bx off=>some (put k (.pt bx off))
   | .ep id q ix w off=>some (put k (.ep id q ix w off))
   | .fp s ix w off=>some (put k (.fp s ix w off))
   |_=>none
 | .binOp op t x y _=>match one x,one y with
   | .v false [a],.v false [b]=>(cx.ty t).bind λti=>(k.val a).bind λ(k,a)=>(k.val b).bind λ(k,b)=>
     bif Nat.beq ti.kd 4 then lf (k.em (.bb op) [a,b])
     else bif Nat.beq ti.kd 1||Nat.beq ti.kd 2 then lf (k.em (.bin op) [a,b])else none
   | .v true es,.v true bs=>(cx.ty t).bind λti=>bif Nat.beq ti.kd 5&&Nat.beq es.length ti.sz then(GM k op (ti.zero.map jZ) es bs).bind lf else none
   |_,_=>none
 | .unOp op _ x=>(k.one (one x)).bind λ(k,a)=>lf (k.em (.un op) [a])
 | .convert s t x=>(cx.ty s).bind λsi=>(cx.ty t).bind λti=>(k.one (one x)).bind λ(k,a)=>
   match ti.zero with
   | [.p (.k (.int kk _))]=>bif Nat.beq ti.kd 1&&Nat.beq si.kd 1 then lf (k.em (.wR kk) [a])else none
   | [.p (.k (.string _))]=>bif Nat.beq ti.kd 2&&Nat.beq si.kd 3 then(cx.ty si.el).bind λte=>
     match te.zero with
     | [.p (.k (.int .u8 _))]=>bif Nat.beq te.kd 1 then lf (k.em .str [a])else none
     |_=>none
    else none
   |_=>none
 | .slice t x lo hi mx=>match(bif mx.isSome then none else uZ cx k t (one x) (lo.map one) (hi.map one))with
  |some (k,v)=>some (put k v)
  |none=>(cx.ty t).bind λti=>(k.dg (xr (one x))).bind λk=>(k.one (one x)).bind λ(k,a)=>
   match mx with
   |some _=>none
   |none=>
   (match lo with
    |none=>some (k,[])
    |some l=>(k.one (one l)).bind λ(k,l)=>some (k,[l])).bind λ(k,ls)=>
   (match hi with
    |none=>some (k,[])
    |some h=>(k.one (one h)).bind λ(k,h)=>some (k,[h])).bind λ(k,hs)=>
   bif Nat.beq ti.kd 3 then(cx.ty ti.el).bind λte=>lf (k.em (.sub te.sz lo.isSome hi.isSome) (a::(ls++hs)))
   else bif Nat.beq ti.kd 2 then lf (k.em (.uR lo.isSome hi.isSome) (a::(ls++hs)))else none
 | .fieldAddr t x f=>(fieldAt cx t f (one x)).bind λv=>some (put k v)
 | .indexAddr t x i=>(indexAt cx k t (one x) (one i)).bind λ(k,v)=>some (put k v)
 | .index t x i=>(cx.ty t).bind λti=>(k.one (one x)).bind λ(k,a)=>(k.one (one i)).bind λ(k,i)=>
   bif Nat.beq ti.kd 2 then lf (k.em .idx [a,i])else none
 | .extract x i=>match one x with
   | .tp vs=>(vs[i]?).bind λv=>some (put k (.v v.1 v.2))
   |_=>none
 | .makeFunc (.func f) first sT=>bif first.isEmpty then
   (sT.toList.mapM λx=>match one x with| .pt b 0=>some b|_=>none).bind λbs=>some (put k (.cl f bs))else none
 | .call c=>match c.callee,c.args.toList with
   | .builtin .len,[x]=>((c.argTypes[0]?).bind cx.ty).bind λti=>(k.one (one x)).bind λ(k,a)=>
     bif Nat.beq ti.kd 3 then lf (k.em .len [a])else bif Nat.beq ti.kd 2 then lf (k.em .lens [a])else none
   | .builtin .max,[x,y]=>(k.one (one x)).bind λ(k,a)=>(k.one (one y)).bind λ(k,b)=>lf (k.em .mx [a,b])
   | .builtin .min,[x,y]=>(k.one (one x)).bind λ(k,a)=>(k.one (one y)).bind λ(k,b)=>lf (k.em .mn [a,b])
   | .builtin .append,[x,y]=>match c.argTypes.toList with
    | [t,tx]=>(cx.ty t).bind λti=>(cx.ty tx).bind λtj=>(cx.ty ti.el).bind λte=>
     bif Nat.beq ti.kd 3&&Nat.beq tj.kd 3&&Nat.ble te.bytes 32768&&Nat.blt 0 te.sz then
     let sl:=te.zero.any dS
     match A9 k sl te.sz (one x) (one y)with
     |some r=>some (put r.1 (.v false [.p r.2]))
     |none=>
     (A8 k (one x)).bind λ(k,a,dp)=>(uY sl (cx.fz bW dR oi) (k.qZ (sl&& !cx.fz bW dR oi) (one y)) (one y)).bind λ(k,b,qE)=>
     let(k,r):=k.em (.app (!sl) te.sz) [a,b]
     let id:=dy k.ct.i
     some (put {(k.set (.o id) (.ob (dp&&qE) r))with ct:=⟨k.ct.a,id+1⟩} (.v false [.o id []]))
     else none
    |_=>none
   | .value (.func g),xs=>(cx.sg g).bind λsg=>GL k d o.dst g sg (xs.map one)
   |_,_=>none
 |_=>none
def xt:List Ce->List aM
 | []=>[]
 | .o id _::cs=>.o id::xt cs
 |_::cs=>xt cs
def OW:SV->List aM
 | .v _ cs=>xt cs
 | .pt bx _=>[.x bx]
 | .ep id _ _ _ _=>[.o id]
 | .cl _ bs=>bs.map .x
 | .tp vs=>vs.flatMap λv=>xt v.2
 | .fz (.w tk _ _) _=>[.o tk]
 |_=>[]
def A_(o:Oper):List Nat:=o.op.operands.toList.filterMap λ | .tmp t=>some t|_=>none
def deep(s:St):List aM->List aM
 | []=>[]
 |r::rs=>OW (s.get r)++deep s rs
def OX:Op->Bool
 | .move _| .assign _| .fieldAddr .. | .build .. | .box .. | .makeFunc .. | .nilCheck _| .alloc _| .extract ..=>false
 |_=>true
def OY:Op->Bool
 | .load .. | .call _=>true
 |_=>false
def A':List aM->List aM
 | []=>[]
 | .o n::rs=>.o n::A' rs
 |_::rs=>A' rs
def Ba:List aM->List aM
 | []=>[]
 | .x n::rs=>.x n::Ba rs
 |_::rs=>Ba rs
def xu(d:Nat)(s:St)(o:Oper):List aM:=
 let ts:=(A_ o).map (aM.t d)
 bif OX o.op then
  let m:=deep s ts
  let b:=deep s (Ba m)
  ts++m++b++bif OY o.op then deep s (A' (m++b))else []
 else ts
def St.only(s:St):List aM->St
 | []=>[]
 |r::rs=>(r,s.get r)::St.only s rs
def St.dT(s:St):St->St
 | []=>s
 |(r,v)::w=>(St.dT s w).set r v
structure Tr where
 rd:List aM
 wr:List aM
def xv(xs ys:List aM):Bool:=xs.any λx=>ys.any x.beq
def xw(a b:Tr):Bool:=!xv a.wr b.rd&& !xv a.wr b.wr&& !xv a.rd b.wr
def j_:List Nat->List Oper->List Nat
 |acc,[]=>acc
 |acc,o::os=>j_ (acc++[o.after.toList.foldl (λs e=>bif Region.binds .any e&&Nat.blt e.on acc.length then s|||(2^e.on)|||(acc.getD e.on 0)else s) 0]) os
def sU:Nat->List Oper->Bool
 |_,[]=>true
 |i,o::os=>o.after.toList.all (λe=>!Region.binds .any e||Nat.blt e.on i)&&sU (i+1) os
def r9(nt:Nat):Code->Bool
 | .region _ ops _=>ops.toList.all λo=>match o.dst with|some n=>Nat.blt n nt|none=>true
 | .seq a b=>r9 nt a&&r9 nt b
 | .cond _ a b=>r9 nt a&&r9 nt b
 | .block _ a=>r9 nt a
 | .loop a=>r9 nt a
 | .scope a=>r9 nt a
 |_=>true
def xy(bj:Nat)(t:Tr):Nat->List Tr->Bool
 |_,[]=>true
 |i,u::us=>(Nat.testBit bj i||xw u t)&&xy bj t (i+1) us
def u0:List Tr->List Tr->List Nat->Bool
 |done,t::ts,b::bs=>xy b t 0 done&&u0 (done++[t]) ts bs
 |_,_,_=>true
def Bb(s:SV):Option Lf:=
 match s with
 | .v false [.p x]=>some x
 |_=>none
inductive Dec where
 |nil
 |is (b:Bool)
 |ask (n:Nat)
 |no
def n8(fs:gV)(s:SV):Dec:=
 match s with
 | .tp _=>.nil
 |s=>
 match Bb s with
 |some (.k (.bool b))=>.is b
 |some (.a n)=>match fact fs n with
  |some b=>.is b
  |none=>.ask n
 |_=>.no
def wrap:List xq->PL->PL
 | [],k=>k
 |i::is,k=>wrap is (.ins i k)
abbrev KP:=Nat->St->Ct->gV->Option PL
def xA(cx:Cx)(d:Nat)(s:St)(o:Oper):Option (Nat×List SV):=
 match o.op with
 | .call c=>match c.callee with
  | .value x=>match bz d s.get x with
   | .cl g bs=>match cx.sg g with
    |some _=>none
    |none=>some (g,c.args.toList.map (bz d s.get)++bs.map λb=>.pt b 0)
   |_=>none
  |_=>none
 |_=>none
abbrev lr:=Nat->Nat->List SV->Nat->St->Ct->gV->(List SV->KP)->Option PL
def qF:List SV->Option (List (Bool×List Ce))
 | []=>some []
 | .v ag cs::vs=>(qF vs).bind λl=>some ((ag,cs)::l)
 |_=>none
def nX:List xq->Nat
 | []=>0
 | .pr _ _::is=>nX is+1
 | .cl _ _ m::is=>nX is+m
def Lf.gu(a:Nat):Lf->Bool
 | .a n=>Nat.blt n a
 |_=>true
def xB:Nat->List xq->Bool
 |_,[]=>true
 |e,.pr _ xs::is=>Nat.blt 0 e&&xs.all (Lf.gu (e-1))&&xB (e-1) is
 |e,.cl _ xs m::is=>Nat.ble m e&&xs.all (Lf.gu (e-m))&&xB (e-m) is
def uj(d:Nat)(ops:Array Oper)(o:Oper):List aM:=
 match o.guard with
 |none=>[]
 |some (j,_)=>match(ops[j]?).bind (·.dst)with
  |some g=>[.t d g]
  |none=>[]
def Bc(d:Nat)(s:St)(o:Oper)(fs:gV):Option (Dec×SV×SV):=
 match o.op with
 | .pick c a b=>some (n8 fs (bz d s.get c),bz d s.get a,bz d s.get b)
 |_=>none
abbrev Rec:=List Tr->Nat->St->Ct->gV->Option PL
def xC(d:Nat)(ops:Array Oper)(o:Oper)(rc:Rec)(tr:List Tr)(lv:Nat)(s:St)(ct:Ct)(fs:gV):Option PL:=
 match o.dst with
 |some n=>rc (tr++[⟨uj d ops o,[.t d n]⟩]) lv (s.set (.t d n) (.tp [])) ct fs
 |none=>rc (tr++[⟨uj d ops o,[]⟩]) lv s ct fs
def sV(d:Nat)(ops:Array Oper)(o:Oper)(rc:Rec)(tr:List Tr)(lv:Nat)(s:St)(ct:Ct)(fs:gV)(v:SV):Option PL:=
 match o.dst with
 |some n=>rc (tr++[⟨uj d ops o++(A_ o).map (aM.t d),[.t d n]⟩]) lv (s.set (.t d n) v) ct fs
 |none=>none
def xD(d:Nat)(o:Oper)(rc:Rec)(tr:List Tr):List SV->KP:=λrs lv s ct fs=>
 match o.dst,rs with
 |none,_=>rc tr lv s ct fs
 |some n,[v]=>rc tr lv (s.set (.t d n) v) ct fs
 |some n,[]=>rc tr lv (s.set (.t d n) .un) ct fs
 |some n,rs=>(qF rs).bind λvs=>rc tr lv (s.set (.t d n) (.tp vs)) ct fs
def Nq(cx:Cx)(cn:lr)(bW dR d:Nat)(ops:Array Oper)(draw:Bool)(o:Oper)(i:Nat)(rc:Rec)(tr:List Tr)(lv:Nat)(s:St)(ct:Ct)(fs:gV):Option PL:=
 match Bc d s o fs with
 |some (dc,a,b)=>
  match dc with
  | .is true=>sV d ops o rc tr lv s ct fs a
  | .is false=>sV d ops o rc tr lv s ct fs b
  | .ask n=>(sV d ops o rc tr lv s ct ((n,true)::fs) a).bind λx=>(sV d ops o rc tr lv s ct ((n,false)::fs) b).bind λy=>some (.ite n x y)
  | .nil| .no=>some (.om (bW*100000000+2000000+dR*1000+i) [s])
 |none=>
  match xA cx d s o with
  |some (g,vs)=>
   bif draw then some (.om (bW*100000000+4000000+dR*1000+i) [s])else
   cn (d+1) g vs lv s ct fs (xD d o rc tr)
  |none=>
   match gb cx bW dR d o i ⟨s.only (xu d s o),[],ct,[]⟩with
   |none=>some (.om (bW*100000000+1000000+dR*1000+i) [s.only (xu d s o)])
   |some k=>
    bif Nat.beq k.ct.a (ct.a+nX k.is)&&Nat.ble ct.i k.ct.i&&xB k.ct.a k.is then
     (rc (tr++[⟨uj d ops o++xu d s o,k.w.map (·.1)⟩]) lv (s.dT k.w) k.ct fs).bind λp=>some (wrap k.is p)
    else none
def u4(cx:Cx)(cn:lr)(bW dR d:Nat)(ops:Array Oper)(draw:Bool)(o:Oper)(i:Nat)(rc:Rec)(tr:List Tr)(lv:Nat)(s:St)(ct:Ct)(fs:gV):Option PL:=
 let run:=Nq cx cn bW dR d ops draw o i rc tr lv s ct
 let skip:=xC d ops o rc tr lv s ct
 match o.guard with
 |none=>run fs
 |some (j,lu)=>
  match(ops[j]?).bind (·.dst)with
  |none=>none
  |some g=>
   match n8 fs (s.get (.t d g))with
   | .nil=>skip fs
   | .is b=>bif b==lu then run fs else skip fs
   | .ask n=>(bif true==lu then run ((n,true)::fs)else skip ((n,true)::fs)).bind λx=>
     (bif false==lu then run ((n,false)::fs)else skip ((n,false)::fs)).bind λy=>some (.ite n x y)
   | .no=>some (.om (bW*100000000+3000000+dR*1000+i) [s])
def xE(cx:Cx)(cn:lr)(bW dR d:Nat)(ops:Array Oper)(draw:Bool)(fin:List Tr->KP):
  List Oper->Nat->Rec
 | [],_=>fin
 |o::os,i=>u4 cx cn bW dR d ops draw o i (xE cx cn bW dR d ops draw fin os (i+1))
inductive Ex where
 |normal
 |exit (id:Nat)
 |ret
def Bd:lh->lh->Bool
 | [],[]=>true
 |(x,w,j)::p,(x',w',j')::q=>x.beq x'&&Nat.beq w w'&&Nat.beq j j'&&Bd p q
 |_,_=>false
def Ce.beq:Ce->Ce->Bool
 | .p x,.p y=>x.beq y
 | .o i s,.o j t=>Nat.beq i j&&Bd s t
 | .n,.n=>true
 | .d,.d=>true
 |_,_=>false
def q7:List Ce->List Ce->Bool
 | [],[]=>true
 |c::cs,e::es=>c.beq e&&q7 cs es
 |_,_=>false
def sW:List Nat->List Nat->Bool
 | [],[]=>true
 |c::cs,e::es=>Nat.beq c e&&sW cs es
 |_,_=>false
def sX:List (Bool×List Ce)->List (Bool×List Ce)->Bool
 | [],[]=>true
 |(a,cs)::vs,(b,es)::us=>(a==b)&&q7 cs es&&sX vs us
 |_,_=>false
def Pv.beq:Pv->Pv->Bool
 | .z,.z=>true
 | .w t x l,.w u y m=>Nat.beq t u&&x.beq y&&l.beq m
 |_,_=>false
def SV.beq:SV->SV->Bool
 | .un,_=>true
 | .v a cs,.v b es=>(a==b)&&q7 cs es
 | .pt a b,.pt c d=>Nat.beq a c&&Nat.beq b d
 | .ep i p x w j,.ep i' q x' w' j'=>Nat.beq i i'&&Bd p q&&x.beq x'&&Nat.beq w w'&&Nat.beq j j'
 | .fp s x w j,.fp s' x' w' j'=>s.beq s'&&x.beq x'&&Nat.beq w w'&&Nat.beq j j'
 | .tp vs,.tp us=>sX vs us
 | .cl f bs,.cl g cs=>Nat.beq f g&&sW bs cs
 | .ob a x,.ob b y=>(a==b)&&x.beq y
 | .fz p x,.fz q y=>p.beq q&&x.beq y
 | .tk x m,.tk y n=>x.beq y&&m.beq n
 | .fl x,.fl y=>x.beq y
 | .fr x,.fr y=>x.beq y
 |_,_=>false
def u5(d:Nat)(s:St)(n:Nat)(bx:Bool):aM:=
 bif bx then match s.get (.t d n)with| .pt b _=>.x b|_=>.t d n else .t d n
def Be(d:Nat)(s:St)(r:aM):Js->Bool
 | []=>false
 |(_,_,.rows _)::js=>Be d s r js
 |(n,bx,_)::js=>(u5 d s n bx).beq r||Be d s r js
def u6:Ct->List Ce->List Cj->Ct×List Ce×St×List Nat
 |ct,_,[]=>(ct,[],[],[])
 |ct,cs,j::js=>
  let c:=cs.headD .d
  match j with
  | .k=>let(ct,es,w,ds):=u6 ct cs.tail js;(ct,c::es,w,ds)
  | .p=>let(ff,es,w,ds):=u6 ⟨ct.a+1,ct.i⟩ cs.tail js;(ff,.p (.a ct.a)::es,w,ds)
  | .o dp=>
   let(ff,es,w,ds):=u6 ⟨ct.a+1,dy ct.i+1⟩ cs.tail js
   (ff,.o (dy ct.i) []::es,(.o (dy ct.i),.ob dp (.a ct.a))::w,match c with| .o id _=>id::ds|_=>ds)
  | .d=>let(ct,es,w,ds):=u6 ct cs.tail js;(ct,.d::es,w,match c with| .o id _=>id::ds|_=>ds)
def GN:SV->Option Nat
 | .fz (.w t _ _) _=>some t
 |_=>none
def GP(s:St)(cs:List Ce):Ct->List (Nat×Bool)->Ct×St×List Nat
 |ct,[]=>(ct,[],[])
 |ct,(j,dp)::js=>
  match cs[j]? with
  |some (.o id _)=>
   match GN (s.get (.o id))with
   |some t=>
    match s.get (.o t)with
    | .tk x _=>let(ff,w,ds):=GP s cs ⟨ct.a+1,ct.i⟩ js;(ff,(.o t,.tk x (.a ct.a))::w,t::ds)
    |_=>GP s cs ct js
   |none=>let(ff,w,ds):=GP s cs ⟨ct.a+1,ct.i⟩ js;(ff,(.o id,.ob dp (.a ct.a))::w,id::ds)
  |_=>GP s cs ct js
def mT:SV->List Ce
 | .v _ cs=>cs
 |_=>[]
def xF(d:Nat)(s:St):Ct->Js->Ct×St×St×List Nat
 |ct,[]=>(ct,[],[],[])
 |ct,(_,_,.drop)::js=>xF d s ct js
 |ct,(n,bx,.aO ag cj)::js=>
  let r:=u5 d s n bx
  let(ct,es,w,ds):=u6 ct (mT (s.get r)) cj
  let(ct,ps,ws,OZ):=xF d s ct js
  (ct,(r,.v ag es)::ps,w++ws,ds++OZ)
 |ct,(n,bx,.rows rj)::js=>
  let(ct,w,ds):=GP s (mT (s.get (u5 d s n bx))) ct rj
  let(ct,ps,ws,OZ):=xF d s ct js
  (ct,ps,w++ws,ds++OZ)
def Bf(d:Nat)(s0:St)(js:Js)(ds:List Nat):St->St
 | []=>[]
 |(r,v)::s=>
  let gone:=match r with| .o id=>ds.any (Nat.beq id)|_=>false
  bif Be d s0 r js||gone then Bf d s0 js ds s else(r,v)::Bf d s0 js ds s
structure Head where
 s0:St
 kept:St
 new:St
 own:St
 c0:Ct
 ct:Ct
 js:Js
def Head.st(h:Head):St:=h.kept++h.own++h.new
def xG(s:St):List Ce->List Cj->List (Nat×Bool)
 | .o id []::cs,.p::js=>(id,true)::xG s cs js
 | .o id []::cs,.o false::js=>(id,false)::xG s cs js
 |_::cs,_::js=>xG s cs js
 |_,_=>[]
def xH(cs:List Ce):List (Nat×Bool)->List (Nat×Bool)
 | []=>[]
 |(j,dp)::js=>
  match cs[j]? with
  |some (.o id _)=>bif dp then xH cs js else(id,false)::xH cs js
  |_=>xH cs js
def Bg(d:Nat)(s0 s:St):Js->List (Nat×Bool)
 | []=>[]
 |(_,_,.drop)::js=>Bg d s0 s js
 |(n,bx,.aO _ cj)::js=>xG s (mT (s.get (u5 d s0 n bx))) cj++Bg d s0 s js
 |(n,bx,.rows rj)::js=>xH (mT (s0.get (u5 d s0 n bx))) rj++Bg d s0 s js
def xI(s:St):List (Nat×Bool)->List Nat
 | []=>[]
 |(id,all)::l=>bif all then(match s.get (.o id)with| .ob _ _=>id::xI s l|_=>xI s l)else xI s l
def wT(d:Nat)(s:St)(ct:Ct)(js:Js):Head:=
 let(ff,ps,ws,ds):=xF d s ct js
 {s0:=s,kept:=Bf d s js (xI s (Bg d s s js)++ds) s,new:=ps,own:=ws,c0:=ct,ct:=ff,js}
def z7(s:St):List (Nat×Bool)->St
 | []=>s
 |(id,all)::l=>
  match s.get (.o id)with
  | .ob _ x=>z7 (s.set (.o id) (bif all then .fz .z x else .ob false x)) l
  |_=>z7 s l
abbrev lj:=List (Nat×Option Nat)
def GQ(s:St):List Ce->List Ce->List Cj->Option (List Lf×lj)
 | [],[],[]=>some ([],[])
 |c::cs,h::hs,j::js=>
  (GQ s cs hs js).bind λ(xs,rn)=>
  match j with
  | .k| .d=>some (xs,rn)
  | .p=>match c with
   | .p x=>some (x::xs,rn)
   | .n=>some (.e::xs,rn)
   | .o id []=>match s.get (.o id)with
    | .fz _ x=>some (x::xs,rn)
    |_=>none
   |_=>none
  | .o dp=>match h with
   | .o i []=>match c with
    | .n=>some (.e::xs,(i,none)::rn)
    | .o id []=>match s.get (.o id)with
     | .ob _ x=>some (x::xs,(i,some id)::rn)
     |_=>none
    |_=>none
   |_=>none
 |_,_,_=>none
def GR(s0 s:St)(cs:List Ce):List (Nat×Bool)->Option (List Lf)
 | []=>some []
 |(j,dp)::js=>
  match cs[j]? with
  |some (.o id _)=>
   match GN (s0.get (.o id))with
   |some t=>
    match s0.get (.o t)with
    | .tk _ _=>match s.get (.o t)with
     | .tk _ m=>(GR s0 s cs js).bind λxs=>some (m::xs)
     |_=>none
    |_=>GR s0 s cs js
   |none=>match s.get (.o id)with
    | .ob _ x=>(GR s0 s cs js).bind λxs=>some (x::xs)
    |_=>none
  |_=>GR s0 s cs js
def xJ(d:Nat)(s0 s:St):St->Js->Option (List Lf×lj)
 |ps,(_,_,.drop)::js=>xJ d s0 s ps js
 |(r',.v ag hs)::ps,(n,bx,.aO r8 cj)::js=>
  (GQ s (mT (s.get (u5 d s0 n bx))) hs cj).bind λ(xs,rn)=>(xJ d s0 s ps js).bind λ(ys,rm)=>some (xs++ys,rn++rm)
 |ps,(n,bx,.rows rj)::js=>
  (GR s0 s (mT (s0.get (u5 d s0 n bx))) rj).bind λxs=>(xJ d s0 s ps js).bind λ(ys,rm)=>some (xs++ys,rm)
 | [],[]=>some ([],[])
 |_,_=>none
def sY(a:Nat):lh->Bool
 | []=>true
 |(x,_,_)::q=>x.gu a&&sY a q
def Ce.gu(a i:Nat):Ce->Bool
 | .p x=>x.gu a
 | .o id q=>Nat.blt id i&&sY a q
 |_=>true
def u7(a i:Nat):List Ce->Bool
 | []=>true
 |c::cs=>c.gu a i&&u7 a i cs
def sZ(a i:Nat):List (Bool×List Ce)->Bool
 | []=>true
 |v::vs=>u7 a i v.2&&sZ a i vs
def Pv.gu(a i:Nat):Pv->Bool
 | .z=>true
 | .w t x l=>Nat.blt t i&&x.gu a&&l.gu a
def SV.gu(a i:Nat):SV->Bool
 | .un=>true
 | .v _ cs=>u7 a i cs
 | .pt b _=>Nat.blt b i
 | .ep id q x _ _=>Nat.blt id i&&sY a q&&x.gu a
 | .fp s x _ _=>s.gu a&&x.gu a
 | .tp vs=>sZ a i vs
 | .cl _ bs=>bs.all λb=>Nat.blt b i
 | .ob _ x=>x.gu a
 | .fz p x=>p.gu a i&&x.gu a
 | .tk x m=>x.gu a&&m.gu a
 | .fl x=>x.gu a
 | .fr x=>x.gu a
def lO:lj->Nat->Option (Option Nat)
 | [],_=>none
 |(j,x)::rn,i=>bif Nat.beq j i then some x else lO rn i
def lz:lj->Nat->Option Nat
 | [],_=>none
 |(j,some x)::rn,i=>bif Nat.beq x i then some j else lz rn i
 |(_,none)::rn,i=>lz rn i
def lX(a0:Nat)(xs:List Lf)(n:Nat)(x:Lf):Bool:=
 Nat.ble a0 n&&(match xs[n-a0]? with|some y=>y.beq x|none=>false)
def Bh(s:St)(a0 i0:Nat)(xs:List Lf)(rn:lj)(c h:Ce):Bool:=
 (h.beq c&&h.gu a0 i0)||
 match h,c with
 | .p (.a n),.p x=>lX a0 xs n x
 | .p (.a n),.n=>lX a0 xs n .e
 | .p (.a n),.o id []=>(match s.get (.o id)with| .fz _ x=>lX a0 xs n x|_=>false)
 | .o j [],.n=>Nat.ble i0 j&&(match lO rn j with|some none=>true|_=>false)
 | .o j [],.o id []=>Nat.ble i0 j&&(match lO rn j with|some (some k)=>Nat.beq k id|_=>false)
 | .d,_=>true
 |_,_=>false
def u9(s:St)(a0 i0:Nat)(xs:List Lf)(rn:lj):List Ce->List Ce->Bool
 | [],[]=>true
 |c::cs,h::hs=>Bh s a0 i0 xs rn c h&&u9 s a0 i0 xs rn cs hs
 |_,_=>false
def ES(s:St)(a0 i0:Nat)(xs:List Lf)(rn:lj):St->Bool
 | []=>true
 |(r,.v ag hs)::ps=>
  (match r with| .o _=>false| .x b=>Nat.blt b i0| .t _ _=>true)&&
  (match s.get r with| .v r8 cs=>(ag==r8)&&u9 s a0 i0 xs rn cs hs|_=>false)&&ES s a0 i0 xs rn ps
 |_::_=>false
def Bi(s:St)(a0 i0:Nat)(xs:List Lf)(rn:lj):St->Bool
 | []=>true
 |(.o j,.ob dp (.a n))::ps=>
  (match lO rn j with
   |some (some id)=>Nat.ble i0 j&&(match s.get (.o id)with| .ob qE x=>(dp==qE)&&lX a0 xs n x|_=>false)
   |some none=>Nat.ble i0 j&&lX a0 xs n .e
   |none=>Nat.blt j i0&&(match lz rn j with|none=>true|some _=>false)&&(match s.get (.o j)with| .ob qE x=>(dp==qE)&&lX a0 xs n x|_=>false))&&
  Bi s a0 i0 xs rn ps
 |(.o j,.tk x (.a n))::ps=>
  (Nat.blt j i0&&(match lz rn j with|none=>true|some _=>false)&&x.gu a0&&(match s.get (.o j)with| .tk y m=>x.beq y&&lX a0 xs n m|_=>false))&&
  Bi s a0 i0 xs rn ps
 |_::_=>false
def SV.isU:SV->Bool
 | .un=>true
 |_=>false
def GS(i0:Nat)(rn:lj):aM->Bool
 | .o id=>Nat.blt id i0&&(match lz rn id with|none=>true|some _=>false)
 | .x b=>Nat.blt b i0
 | .t _ _=>true
def xK(s:St)(a0 i0:Nat)(rn:lj):St->Bool
 | []=>true
 |(r,v)::h=>(v.isU||(v.beq (s.get r)&&v.gu a0 i0&&GS i0 rn r))&&xK s a0 i0 rn h
def z8(i0 i1:Nat)(all:lj):lj->Bool
 | []=>true
 |(j,x)::rn=>Nat.ble i0 j&&Nat.blt j i1&&Nat.beq (j%2) 0&&(match x with|none=>true|some id=>!Nat.beq (id%4) 2&&(match lz all id with|some k=>Nat.beq k j|none=>false))&&z8 i0 i1 all rn
def Bj(h:Head)(s:St)(xs:List Lf)(rn:lj):Bool:=
 Nat.beq (h.c0.a+xs.length) h.ct.a&&Nat.blt 0 h.ct.i&&Nat.ble h.c0.i h.ct.i&&z8 h.c0.i h.ct.i rn rn&&xK s h.c0.a h.c0.i rn h.kept&&Bi s h.c0.a h.c0.i xs rn h.own&&ES s h.c0.a h.c0.i xs rn h.new
def eU(d:Nat)(h:Head)(s:St):Option (List Lf):=
 let s1:=z7 s (Bg d h.s0 s h.js)
 (xJ d h.s0 s1 h.new h.js).bind λ(xs,rn)=>bif Bj h s1 xs rn then some xs else none
abbrev KE:=Ex->KP
def oJ(d:Nat):St->St
 | []=>[]
 |(.t e n,v)::s=>bif Nat.ble d e then oJ d s else(.t e n,v)::oJ d s
 |x::s=>x::oJ d s
def fF(s:St)(cs:List Ce):List (Nat×Bool)->St
 | []=>s
 |(j,all)::js=>
  match cs[j]? with
  |some (Ce.o id _)=>match s.get (.o id)with
   | .ob _ x=>fF (s.set (.o id) (bif all then .fz .z x else .ob false x)) cs js
   |_=>fF s cs js
  |_=>fF s cs js
def gI(d:Nat)(s:St):Js->St
 | []=>s
 |(n,bx,.rows js)::l=>
  let cs:=mT (s.get (u5 d s n bx))
  gI d (fF s cs js) l
 |_::l=>gI d s l
def fP(s:St)(ct:Ct)(cs:List Ce):List (Nat×Bool)->St×Ct
 | []=>(s,ct)
 |(j,_)::js=>
  match cs[j]? with
  |some (Ce.o id [])=>match s.get (.o id)with
   | .ob true x=>bif Nat.beq (id%2) 0 then fP ((s.set (.o id) (.fz (.w (li ct.i) x (.k (.int .i64 0))) x)).set (.o (li ct.i)) (.tk x x)) ⟨ct.a,li ct.i+1⟩ cs js else fP s ct cs js
   |_=>fP s ct cs js
  |_=>fP s ct cs js
def gW(d:Nat)(s:St)(ct:Ct):Js->St×Ct
 | []=>(s,ct)
 |(n,bx,.rows js)::l=>
  let r:=fP s ct (mT (s.get (u5 d s n bx))) js
  gW d r.1 r.2 l
 |_::l=>gW d s ct l
def GU(d:Nat)(h:Head)(lv tag:Nat):KP:=λNr s' ff gx=>
 match eU d h s' with
 |some xs=>some (.go (Nr-lv-1) xs)
 |none=>some (.om tag [h.st,s'])
def u_(d:Nat)(h:Head)(lv tag:Nat)(K:KE):KE:=λe=>
 match e with
 | .normal=>GU d h lv tag
 |e=>K e
def xL(id:Nat)(K:KE):KE:=λe=>
 match e with
 | .exit i=>bif Nat.beq i id then K .normal else K (.exit i)
 |e=>K e
def O0(bW id:Nat)(ops:Array Oper)(draw:Bool)(k:KP):List Tr->KP:=λtr lv s ct fs=>
 bif draw then
  bif u0 [] tr (j_ [] ops.toList)&&sU 0 ops.toList then k lv s ct fs else some (.om (bW*100000000+100000+id) [])
 else k lv s ct fs
def q8(n i:Nat):Array Bool:=(List.replicate i true++List.replicate (n-i) false).toArray
def Bk(ops:Array Oper):Bool:=
 match ops.toList with
 | []=>false
 |o::os=>(o::os).all (λx=>match x.op with| .select ..=>false|_=>true)&&o.guard.isNone&&(match o.op with| .move _=>true|_=>false)&&o.after.toList.all (λe=>!Region.binds .any e)&&
   os.all λy=>y.after.toList.any (λe=>Region.binds .any e&&Nat.beq e.on 0)||o.apart ops y
def xM(ops:Array Oper)(c:Nat)(h:Bool):Bool:=
 Nat.blt c ops.size&&((List.range' c (ops.size-c)).all λj=>(List.range j).all λu=>(h&&Nat.beq u 0)||Nat.testBit ((j_ [] ops.toList).getD j 0) u)&&(!h||(Bk ops&&Nat.blt 0 c))
def O1(cx:Cx)(bW id:Nat):Option (Nat×Bool):=match cx.n7 bW 6 id with|some ((c,h,_)::_)=>some (c,h)|_=>none
def xN(cx:Cx)(cn:lr)(bW id d:Nat)(ops:Array Oper)(draw:Bool)(k:KP)(lv:Nat)(s:St)(ct:Ct)(fs:gV):Option PL:=
 match(bif draw then O1 cx bW id else none)with
 |none=>xE cx cn bW id d ops draw (O0 bW id ops draw k) ops.toList 0 [] lv s ct fs
 |some (c,h)=>
  xE cx cn bW id d ops true (λtr lv s ct fs=>bif u0 [] tr (j_ [] ops.toList)&&(sU 0 ops.toList&&xM ops c h)then xE cx cn bW id d ops false (λ_=>k) (ops.toList.drop c) c [] lv s ct fs else some (.om (bW*100000000+100000+id) []))
   (ops.toList.take c) 0 [] lv s ct fs
def xO(tag:Nat)(v:SV)(cx cy:gV->Option PL)(s:St)(fs:gV):Option PL:=
 match n8 fs v with
 | .is b=>bif b then cx fs else cy fs
 | .ask n=>(cx ((n,true)::fs)).bind λp=>(cy ((n,false)::fs)).bind λq=>some (.ite n p q)
 | .nil| .no=>some (.om tag [s])
def Bl(cx:Cx)(bW d id:Nat)(s:St):St:=match cx.n7 bW 4 id with|none=>s|some js=>gI d s js
def xP(cx:Cx)(bW d id:Nat)(s:St)(ct:Ct):St×Ct:=match cx.n7 bW 5 id with|none=>(s,ct)|some js=>gW d s ct js
def comp(cx:Cx)(cn:lr)(bW d:Nat):Code->Nat->Nat->St->Ct->gV->KE->Option PL
 | .skip,_,lv,s,ct,fs,K=>K .normal lv s ct fs
 | .label _,_,lv,s,ct,fs,K=>K .normal lv s ct fs
 | .seq a b,_,lv,s,ct,fs,K=>
  comp cx cn bW d a 0 lv s ct fs λe=>
   match e with
   | .normal=>λlv s ct fs=>comp cx cn bW d b 0 lv s ct fs K
   |e=>K e
 | .region id ops draw,_,lv,s0,ct0,fs,K=>
  let r5:=xP cx bW d id (Bl cx bW d id s0) ct0
  let s:=r5.1
  let ct:=r5.2
  match cx.n7 bW 1 id with
  |none=>xN cx cn bW id d ops draw (K .normal) lv s ct fs
  |some js=>
   let h:=wT d s ct js
   (K .normal lv h.st h.ct fs).bind λk=>
    (xN cx cn bW id d ops draw (GU d h lv (bW*100000000+200000+id)) (lv+1) s ct fs).bind λb=>some (.join k b)
 | .cond c x y,_,lv,s,ct,fs,K=>
  let key:=match c with| .tmp t=>t|_=>0
  match cx.n7 bW 2 key with
  |none=>xO (bW*100000000+5000000+key) (bz d s.get c) (λfs=>comp cx cn bW d x 0 lv s ct fs K) (λfs=>comp cx cn bW d y 0 lv s ct fs K) s fs
  |some js=>
   let h:=wT d s ct js
   (K .normal lv h.st h.ct fs).bind λk=>
    (xO (bW*100000000+5000000+key) (bz d s.get c) (λfs=>comp cx cn bW d x 0 (lv+1) s ct fs (u_ d h lv (bW*100000000+300000+key) K))
     (λfs=>comp cx cn bW d y 0 (lv+1) s ct fs (u_ d h lv (bW*100000000+300000+key) K)) s fs).bind λb=>some (.join k b)
 | .block id body,_,lv,s,ct,fs,K=>
  match cx.n7 bW 3 id with
  |none=>comp cx cn bW d body id lv s ct fs (xL id K)
  |some js=>
   let h:=wT d s ct js
   (K .normal lv h.st h.ct fs).bind λk=>
    (comp cx cn bW d body id (lv+1) s ct fs (xL id (u_ d h lv (bW*100000000+400000+id) K))).bind λb=>some (.join k b)
 | .loop body,q9,lv,s,ct,fs,K=>
  match cx.n7 bW 0 q9 with
  |none=>some (.om (bW*100000000+500000+q9) [s])
  |some js=>
   let h:=wT d s ct js
   match eU d h s with
   |none=>some (.om (bW*100000000+600000+q9) [h.st,s])
   |some xs=>(comp cx cn bW d body 0 (lv+1) h.st h.ct fs (u_ d h lv (bW*100000000+700000+q9) K)).bind λb=>some (.loop xs b)
 | .exit id,_,lv,s,ct,fs,K=>K (.exit id) lv s ct fs
 | .ret,_,lv,s,ct,fs,K=>K .ret lv s ct fs
 |_,_,_,_,_,_,_=>some (.om (bW*100000000+6000000) [])
def results(cx:Cx)(d:Nat)(s:St):List ResultVar->Option (List SV)
 | []=>some []
 | .tmp t::rs=>(results cx d s rs).bind λvs=>some (s.get (.t d t)::vs)
 | .cell a t::rs=>(cx.ty t).bind λti=>
  match s.get (.t d a)with
  | .pt bx off=>match s.get (.x bx)with
   | .v _ cs=>bif Nat.ble (off+ti.sz) cs.length then(results cx d s rs).bind λvs=>some (.v ti.ag ((cs.drop off).take ti.sz)::vs)else none
   |_=>none
  |_=>none
def Bm(d:Nat)(s:St):Nat->List SV->St
 |_,[]=>s
 |i,v::vs=>Bm d (s.set (.t d i) v) (i+1) vs
def xQ(cx:Cx):Nat->lr
 |0=>λ_ _ _ _ _ _ _ _=>none
 |n+1=>λd g vs lv s ct fs k=>
  (cx.fn g).bind λfn=>fn.body.bind λc=>
   bif Nat.ble vs.length fn.ntmps&&r9 fn.ntmps c then
    comp cx (xQ cx n) g d c 0 lv (Bm d (oJ d s) 0 vs) ct fs λe lv s ct fs=>
     match e with
     | .exit _=>none
     |_=>(results cx d s fn.results.toList).bind λrs=>k rs lv (oJ d s) ct fs
   else none
def xR:List Ce->List Ck->List (Nat×Bool)
 | .o id _::cs,.p::ks=>(id,true)::xR cs ks
 | .o id _::cs,.o false::ks=>(id,false)::xR cs ks
 |_::cs,_::ks=>xR cs ks
 |_,_=>[]
def xS:List SV->List (Bool×List Ck)->List (Nat×Bool)
 |v::vs,r::rs=>xR (mT v) r.2++xS vs rs
 |_,_=>[]
def vd(s:St):Nat->List PS->List (Nat×Bool)
 |_,[]=>[]
 |i,.v _ _::ps=>vd s (i+1) ps
 |i,.x _::ps=>(q_ (mT (s.get (.x i)))).map (λid=>(id,true))++vd s (i+1) ps
 where
 q_:List Ce->List Nat
  | []=>[]
  | .o id _::cs=>id::q_ cs
  |_::cs=>q_ cs
def Wk.plain(k:Wk):Ce->Option Lf
 | .p x=>some x
 | .n=>some .e
 | .o id []=>match k.get (.o id)with
  | .fz _ x=>some x
  |_=>none
 |_=>none
def Wk.nu(k:Wk):List Ce->Option (List Lf)
 | []=>some []
 |c::cs=>(k.plain c).bind λx=>(Wk.nu k cs).bind λxs=>some (x::xs)
def j1(k:Wk):List Ce->List Ck->Option (Wk×List Lf×List Nat)
 | [],[]=>some (k,[],[])
 | .o id []::cs,.o dp::ks=>
  match k.get (.o id)with
  | .ob qE x=>bif qE==dp&& !Nat.beq (id%4) 2 then(j1 k cs ks).bind λ(k,xs,ids)=>some (k,x::xs,id::ids)else none
  |_=>none
 | .n::cs,.o _::ks=>(j1 k cs ks).bind λ(k,xs,ids)=>some (k,.e::xs,ids)
 | .p x::cs,.s::ks=>
  (j1 k cs ks).bind λ(k,xs,ids)=>
   let(k,y):=k.em .pQ [x]
   some (k,y::xs,ids)
 |c::cs,.p::ks=>(k.plain c).bind λx=>(j1 k cs ks).bind λ(k,xs,ids)=>some (k,x::xs,ids)
 |_,_=>none
def jS(k:Wk):List SV->List (Bool×List Ck)->Option (Wk×List Lf×List Nat)
 | [],[]=>some (k,[],[])
 | .v ag cs::vs,(r8,ks)::rs=>bif ag==r8 then
   (jS k vs rs).bind λ(k,ys,jds)=>(j1 k cs ks).bind λ(k,xs,ids)=>some (k,xs++ys,ids++jds)
  else none
 |_,_=>none
def s5(k:Wk):Nat->List PS->Option (List Lf)
 |_,[]=>some []
 |i,.v _ _::ps=>s5 k (i+1) ps
 |i,.x n::ps=>
  match k.get (.x i)with
  | .v _ cs=>bif Nat.beq cs.length n then(k.nu cs).bind λxs=>(s5 k (i+1) ps).bind λys=>some (xs++ys)else none
  |_=>none
def qG:Nat->Nat->List PS->Nat×St
 |a,_,[]=>(a,[])
 |a,i,.v ag n::ps=>
  let r:=qG (a+n) (i+1) ps
  (r.1,(.t 0 i,.v ag (wS a n))::r.2)
 |a,i,.x n::ps=>
  let r:=qG (a+n) (i+1) ps
  (r.1,(.t 0 i,.pt i 0)::(.x i,.v true (wS a n))::r.2)
def Bn(cx:Cx)(fn:Func)(sg:lV):KP:=λlv s ct fs=>
 (results cx 0 s fn.results.toList).bind λvs=>
  let s1:=z7 s (xS vs sg.rs++vd s 0 sg.ps)
  match jS ⟨s1,[],ct,[]⟩ vs sg.rs with
  |none=>some (.om 90 [s1,vs.map λv=>(.x 0,v)])
  |some (k,xs,ids)=>
   match s5 k 0 sg.ps with
   |none=>some (.om 91 [s1])
   |some ys=>
    bif A7 ids then
     bif Nat.beq k.ct.a (ct.a+nX k.is)&&xB k.ct.a k.is then some (wrap k.is (.ret (xs++ys)))else none
    else some (.om 92 [])
def xT(sg:lV):Bool:=!(nr sg&&sg.rs.any λr=>r.2.any λ | .o true=>true|_=>false)
def xU(cx:Cx)(n bW:Nat)(fn:Func)(sg:lV):Option PL:=
 fn.body.bind λc=>
  let r:=qG 0 0 sg.ps
  bif r9 fn.ntmps c&&Nat.ble sg.ps.length fn.ntmps&&xT sg then
   comp cx (xQ cx n) bW 0 c 0 0 r.2 ⟨r.1,sg.ps.length+1⟩ [] λe=>
    match e with
    | .exit _=>λ_ _ _ _=>none
    |_=>Bn cx fn sg
  else none
theorem Lf.beq_eq{x y:Lf}(h:x.beq y=true):x=y:=by
 cases x with
 |k v=>
  cases y with
  |k u=>
   cases v<;>cases u<;>simp_all[Lf.beq]
   exact ByteArray.ext h
  |a m=>simp[Lf.beq]at h
  |e=>simp[Lf.beq]at h
 |a n=>
  cases y with
  |a m=>simp[Lf.beq]at h;rw[h]
  |k u=>simp[Lf.beq]at h
  |e=>simp[Lf.beq]at h
 |e=>cases y<;>simp[Lf.beq]at h;rfl
inductive Lb where
 |f
 |x (b:Nat)
 |o (id:Nat) (p:List (Nat×Nat))
def Lb.id:Lb->Nat
 | .f=>0
 | .x b=>b
 | .o i _=>i
structure Gh where
 ω:Nat->Option Lb
 β:Nat->Nat
 H:Nat->List (Nat×Nat)->Value
 hs:∀i p,∃a n c,H i p=.slice a n c
def qt:Lb->Bool
 | .o i p=>Nat.beq (i%4) 2||(Nat.beq (i%2) 0&& !p.isEmpty)
 |_=>false
def qf(ω:Nat->Option Lb):Nat->Option Lb:=λb=>match ω b with
 |some l=>bif qt l then none else some l
 |none=>none
theorem s6{ω:Nat->Option Lb}{b:Nat}(h:ω b=none):qf ω b=none:=by simp[qf,h]
theorem ve{ω:Nat->Option Lb}{b:Nat}{l:Lb}(h:ω b=some l)(hq:qt l=false):qf ω b=some l:=by simp[qf,h,hq]
theorem Bo{ω:Nat->Option Lb}{b:Nat}{l:Lb}(h:ω b=some l)(hq:qt l=true):qf ω b=none:=by simp[qf,h,hq]
theorem GV{ω:Nat->Option Lb}{b:Nat}(h:qf ω b=none):ω b=none∨∃l,ω b=some l∧qt l=true:=by
 unfold qf at h
 split at h
 ·rename_i l hl
  cases hq:qt l with
  |true=>exact .inr ⟨l,hl,hq⟩
  |false=>simp[hq]at h
 ·rename_i hl;exact .inl hl
theorem z9{ω:Nat->Option Lb}{b:Nat}{l:Lb}(h:ω b=some l)(hq:qt l=false):qf ω b≠none:=by rw[ve h hq];simp
theorem z_{ω ra:Nat->Option Lb}{b:Nat}(h:qf ω b=none)(hn:ω b=none->ra b=none)(hl:∀l,ω b=some l->qt l=true->ra b=none∨∃l',ra b=some l'∧qt l'=true):qf ra b=none:=by
 rcases GV h with h0|⟨l,h1,h2⟩
 ·exact s6 (hn h0)
 ·rcases hl l h1 h2 with h3|⟨l',h3,h4⟩
  ·exact s6 h3
  ·exact Bo h3 h4
def Gh.q(G:Gh):Nat->Option Lb:=qf G.ω
theorem Bp{G:Gh}{b:Nat}{l:Lb}(h:G.q b=some l):G.ω b=some l:=by
 unfold Gh.q qf at h
 split at h
 ·rename_i l' hl
  cases hq:qt l' with
  |true=>simp[hq]at h
  |false=>simp[hq]at h;rw[hl,h]
 ·cases h
theorem Gh.rb{G G':Gh}{b:Nat}(h:G'.ω b=G.ω b):G'.q b=G.q b:=by simp only[Gh.q,qf,h]
theorem xV{ρ:List T}{id:Nat}{p:List (Nat×Nat)}(h:p=[]∨id%2=1)(h2:id%4≠2):qt (.o id p)=false:=by
 have e1:Nat.beq (id%4) 2=false:=by
  cases hb:Nat.beq (id%4) 2 with
  |false=>rfl
  |true=>exact absurd (cK hb) h2
 rcases h with rfl|h
 ·simp[qt,e1]
 ·have e2:Nat.beq (id%2) 0=false:=by rw[h];rfl
  simp[qt,e1,e2]
theorem xW{id:Nat}(h2:id%4≠2):qt (.o id [])=false:=xV (ρ:=[]) (.inl rfl) h2
theorem pS{i:Nat}{p:List (Nat×Nat)}(hi:i%2=0)(hp:p≠[]):qt (.o i p)=true:=by
 cases p with
 |nil=>exact absurd rfl hp
 |cons x p=>simp[qt,hi]
theorem Bq{i:Nat}{p:List (Nat×Nat)}(hi:i%4=2):qt (.o i p)=true:=by simp[qt,hi]
def cI(xs:List (List T))(i j:Nat):Option T:=xs[i]?.bind (·[j]?)
inductive du (ω:Nat->Option Lb) (w:World):T->Value->Prop
 |c {v:Value} (h:ib v=true):du ω w (.c v) v
 |nil {a:Option Addr} {cap:Nat}:du ω w (.l []) (.slice a 0 cap)
 |l {xs:List (List T)} {b off wd cap:Nat} {cv:Nat->Nat->Value} (hw:∀r∈xs,r.length=wd) (hc:xs.length<=cap)
   (hb:ω b=none) (bH:b<w.heap.size)
   (h1:∀i j t,cI xs i j=some t->w.cell? ⟨b,off+(i*wd+j),none⟩=some (cv i j))
   (h2:∀i j t,cI xs i j=some t->du ω w t (cv i j)):du ω w (.l xs) (.slice (some ⟨b,off,none⟩) xs.length cap)
inductive dh (G:Gh) (w:World) (id:Nat):Bool->List (Nat×Nat)->T->Prop
 |nil {dp:Bool} {p:List (Nat×Nat)} (hH:G.H id p=.slice none 0 0):dh G w id dp p (.l [])
 |l {dp:Bool} {p:List (Nat×Nat)} {xs:List (List T)} {b wd cap:Nat} {aX:Array Value} {elem:TypeId} {cv:Nat->Nat->Value}
   (hH:G.H id p=.slice (some ⟨b,0,none⟩) xs.length cap) (hc:xs.length<=cap∧(xs=[]->cap=0)) (eT:G.ω b=some (.o id p))
   (hh:w.heap[b]?=some (.cells aX elem (0,0))) (hs:aX.size=cap*wd) (hw:∀r∈xs,r.length=wd)
   (h1:∀i j t,cI xs i j=some t->aX[i*wd+j]?=some (cv i j))
   (hv:∀i j v,cI xs i j=some (.c v)->cv i j=v∧ib v=true)
   (hp:∀i j ys,cI xs i j=some (.l ys)->dp=false->du G.q w (.l ys) (cv i j))
   (hq:∀i j ys,cI xs i j=some (.l ys)->dp=true->cv i j=G.H id (p++[(i,j)]))
   (ho:∀i j ys,cI xs i j=some (.l ys)->dp=true->dh G w id true (p++[(i,j)]) (.l ys)):dh G w id dp p (.l xs)
def Lf.ej(ρ:List T):Lf->Option T
 | .k v=>bif ib v then some (.c v)else none
 | .a n=>ρ[n]?
 | .e=>some (.l [])
theorem Lf.aZ{ρ:List T}{x:Lf}{t:T}(h:x.ej ρ=some t):x.ev ρ=t:=by
 cases x with
 |k v=>simp only[Lf.ej]at h;cases hs:ib v<;>simp[hs]at h;simp[Lf.ev,h]
 |a n=>simp only[Lf.ej]at h;simp[Lf.ev,List.getD,h]
 |e=>simpa[Lf.ej,Lf.ev]using h
def jT(ρ:List T)(x:Lf):Option Nat:=
 match x.ej ρ with
 |some (.c (.int _ n))=>if 0<=n then some n.toNat else none
 |_=>none
def eK(ρ:List T):lh->Option (List (Nat×Nat))
 | []=>some []
 |(x,_,j)::q=>(jT ρ x).bind λi=>(eK ρ q).bind λp=>some ((i,j)::p)
def iY(ρ:List T)(id:Nat)(q:lh):Option (List (Nat×Nat)):=
 match q with
 | []=>some []
 |x::q=>if id%2=1 then eK ρ (x::q)else none
theorem ke{ρ:List T}{id:Nat}:iY ρ id []=some []:=rfl
theorem xX{ρ:List T}{id:Nat}{q:lh}{p:List (Nat×Nat)}(h:iY ρ id q=some p):eK ρ q=some p:=by
 cases q with
 |nil=>exact h
 |cons x q=>
  simp only[iY]at h
  split at h
  ·exact h
  ·cases h
theorem xY{ρ:List T}{id:Nat}{q:lh}{p:List (Nat×Nat)}(h:iY ρ id q=some p):p=[]∨id%2=1:=by
 cases q with
 |nil=>simp only[iY,aJ]at h;exact .inl h.symm
 |cons x q=>
  simp only[iY]at h
  split at h
  ·exact .inr (by assumption)
  ·cases h
theorem O2{ρ:List T}{id:Nat}{q:lh}{p:List (Nat×Nat)}(h:eK ρ q=some p)(hi:id%2=1):iY ρ id q=some p:=by
 cases q with
 |nil=>exact h
 |cons x q=>simp only[iY,if_pos hi];exact h
def eF(G:Gh)(w:World)(ρ:List T):Ce->Value->Prop
 | .p x,c=>∃t,x.ej ρ=some t∧du G.q w t c
 | .o id q,c=>∃p,iY ρ id q=some p∧c=G.H id p
 | .n,c=>c=.slice none 0 0
 | .d,c=>c.oneCell'=true
def aF(G:Gh)(w:World)(ρ:List T):List Ce->List Value->Prop
 | [],[]=>True
 |c::cs,v::vs=>eF G w ρ c v∧aF G w ρ cs vs
 |_,_=>False
def dU(G:Gh)(w:World)(ρ:List T)(ag:Bool)(cs:List Ce)(c:Value):Prop:=
 match ag with
 |true=>∃vs:List Value,c=.agg vs.toArray∧aF G w ρ cs vs
 |false=>∃e,cs=[e]∧eF G w ρ e c∧∀a,c≠.agg a
def eL(G:Gh)(w:World)(ρ:List T):List (Bool×List Ce)->List Value->Prop
 | [],[]=>True
 |c::cs,v::vs=>dU G w ρ c.1 c.2 v∧eL G w ρ cs vs
 |_,_=>False
def bY(G:Gh)(w:World)(ρ:List T):SV->Value->Prop
 | .un,_=>True
 | .v ag cs,c=>dU G w ρ ag cs c
 | .pt b off,c=>c=.pointer (some ⟨G.β b,off,none⟩)
 | .ep id q ix wd off,c=>∃p b n cap i,iY ρ id q=some p∧G.H id p=.slice (some ⟨b,0,none⟩) n cap∧jT ρ ix=some i∧i<n∧
   c=.pointer (some ⟨b,i*wd+off,none⟩)
 | .fp s ix wd off,c=>∃xs i r b base,s.ej ρ=some (.l xs)∧jT ρ ix=some i∧xs[i]?=some r∧c=.pointer (some ⟨b,base+off,none⟩)∧
   (r.length=wd->G.q b=none∧b<w.heap.size∧∀j t,r[j]?=some t->∃u,w.cell? ⟨b,base+j,none⟩=some u∧du G.q w t u)
 | .tp vs,c=>∃us:List Value,c=.tuple us.toArray∧eL G w ρ vs us
 | .cl f bs,c=>c=.func (.func f) #[] (bs.map λb=>Value.pointer (some ⟨G.β b,0,none⟩)).toArray
 | .ob _ _,_=>False
 | .fz _ _,_=>False
 | .tk _ _,_=>False
 | .fl _,_=>False
 | .fr _,_=>False
def eC(G:Gh)(w:World)(ρ:List T)(b:Nat):SV->Prop
 | .v _ cs=>G.ω (G.β b)=some (.x b)∧∃aX elem,w.heap[G.β b]?=some (.cells aX elem (0,0))∧aF G w ρ cs aX.toList
 | .un=>True
 |_=>False
def mI(w:World)(H:List (Nat×Nat)->Value)(n:Nat)(v:Value)(zs:List (List T)):Prop:=
 ∀b off k c,v=.slice (some ⟨b,off,none⟩) k c->∃wd,(∀r∈zs,r.length=wd)∧∀i j ys,cI zs i j=some (.l ys)->w.cell? ⟨b,off+(i*wd+j),none⟩=some (H [(n+i,j)])
def r_(G:Gh)(w:World)(ρ:List T)(v:Value)(t:T):Pv->Prop
 | .z=>True
 | .w tk x lo=>tk%4=2∧∃F n zs,x.ej ρ=some (.l F)∧jT ρ lo=some n∧t=.l zs∧(∀i r,zs[i]?=some r->F[n+i]?=some r)∧
   mI w (G.H tk) n v zs∧(n=0->∀b off k c,v=.slice (some ⟨b,off,none⟩) k c->off=0)
def bZ(G:Gh)(w:World)(ρ:List T)(id:Nat):SV->Prop
 | .ob dp x=>∃t,x.ej ρ=some t∧dh G w id dp [] t
 | .fz pv x=>∃t,x.ej ρ=some t∧du G.q w t (G.H id [])∧r_ G w ρ (G.H id []) t pv
 | .tk x m=>id%4=2∧∃F u,x.ej ρ=some (.l F)∧m.ej ρ=some (.l u)∧u.length=F.length∧
   ∀i r,u[i]?=some r->r≠[]->F[i]?=some r∧∀j ys,r[j]?=some (.l ys)->dh G w id true [(i,j)] (.l ys)
 | .fl x=>id%4=2∧∃t,x.ej ρ=some t∧dh G w id true [] t
 | .fr x=>id%4=0∧∃ys,x.ej ρ=some (.l ys)∧du G.q w (.l ys) (G.H id [])∧mI w (G.H id) 0 (G.H id []) ys∧
   ∀i j zs,cI ys i j=some (.l zs)->dh G w id true [(i,j)] (.l zs)
 | .un=>True
 |_=>False
structure cB (I:Lb->Prop) (N:Nat->Prop) (G:Gh) (w:World) (G':Gh) (w':World):Prop where
 size:w.heap.size<=w'.heap.size
 free:∀b,b<w.heap.size->G.q b=none->G'.q b=none∧w'.heap[b]?=w.heap[b]?
 Ns:∀b,b<w.heap.size->G.ω b=none->G'.ω b=none
 own:∀b l,G.ω b=some l->¬I l->G'.ω b=some l∧w'.heap[b]?=w.heap[b]?
 nm:∀i,¬N i->G'.β i=G.β i∧∀p,(p=[]∨i%4≠0∨∀r,¬I (.o i r))->G'.H i p=G.H i p
theorem O3{w w':World}{b:Nat}(h:w'.heap[b]?=w.heap[b]?)(off:Nat):w'.cell? ⟨b,off,none⟩=w.cell? ⟨b,off,none⟩:=by
 simp only[World.cell?,h]
theorem du.aG{ω ra:Nat->Option Lb}{w w':World}(hs:w.heap.size<=w'.heap.size)
  (hf:∀b,b<w.heap.size->ω b=none->ra b=none∧w'.heap[b]?=w.heap[b]?){t:T}{c:Value}(h:du ω w t c):du ra w' t c:=by
 induction h with
 |c h=>exact .c h
 |nil=>exact .nil
 |l hw hc hb bH h1 h2 ih=>
  obtain⟨jU,hh⟩:=hf _ bH hb
  exact .l hw hc jU (Nat.lt_of_lt_of_le bH hs) (λi j t ht=>by rw[O3 hh];exact h1 i j t ht) ih
theorem dh.aG{I:Lb->Prop}{N:Nat->Prop}{G G':Gh}{w w':World}(k:cB I N G w G' w'){id:Nat}(hi:∀p,¬I (.o id p))(hn:¬N id){dp:Bool}{p:List (Nat×Nat)}{t:T}
  (h:dh G w id dp p t):dh G' w' id dp p t:=by
 have hH:G'.H id=G.H id:=funext λp=>(k.nm id hn).2 p (.inr (.inr hi))
 induction h with
 |nil h=>exact .nil (by rw[hH];exact h)
 |l h1 h2 h3 h4 h5 h6 h7 h8 h9 kf _ ih=>
  obtain⟨ho,hh⟩:=k.own _ _ h3 (hi _)
  exact .l (by rw[hH];exact h1) h2 ho (hh.trans h4) h5 h6 h7 h8 (λi j ys hy hd=>(h9 i j ys hy hd).aG k.size k.free)
   (λi j ys hy hd=>by rw[hH];exact kf i j ys hy hd) ih
def cJ:List Ce->List Nat
 | []=>[]
 | .o id _::cs=>id::cJ cs
 |_::cs=>cJ cs
def oK:List (Bool×List Ce)->List Nat
 | []=>[]
 |v::vs=>cJ v.2++oK vs
def cp:SV->List Nat
 | .v _ cs=>cJ cs
 | .pt b _=>[b]
 | .ep id _ _ _ _=>[id]
 | .cl _ bs=>bs
 | .tp vs=>oK vs
 | .fz (.w tk _ _) _=>[tk]
 |_=>[]
theorem eF.aG{I:Lb->Prop}{N:Nat->Prop}{G G':Gh}{w w':World}(k:cB I N G w G' w'){ρ:List T}{e:Ce}{c:Value}(hn:∀i∈cJ [e],¬N i)
  (h:eF G w ρ e c):eF G' w' ρ e c:=by
 cases e with
 |p x=>obtain⟨t,h1,h2⟩:=h;exact⟨t,h1,h2.aG k.size k.free⟩
 |o id q=>obtain⟨p,h1,h2⟩:=h;exact⟨p,h1,by rw[(k.nm id (hn id (by simp[cJ]))).2 p ((xY h1).imp_right λh=>.inl (by omega))];exact h2⟩
 |n=>exact h
 |d=>exact h
theorem s7(e:Ce)(cs:List Ce):cJ (e::cs)=cJ [e]++cJ cs:=by
 cases e<;>simp[cJ]
theorem aF.aG{I:Lb->Prop}{N:Nat->Prop}{G G':Gh}{w w':World}(k:cB I N G w G' w'){ρ:List T}:∀{cs:List Ce} {vs:List Value},(∀i∈cJ cs,¬N i)->
  aF G w ρ cs vs->aF G' w' ρ cs vs
 | [],[],_,_=>trivial
 | [],_::_,_,h=>h.elim
 |_::_,[],_,h=>h.elim
 |e::cs,v::vs,hn,h=>by
  rw[s7]at hn
  exact⟨h.1.aG k (λi hi=>hn i (List.mem_append_left _ hi)),aF.aG k (λi hi=>hn i (List.mem_append_right _ hi)) h.2⟩
theorem dU.aG{I:Lb->Prop}{N:Nat->Prop}{G G':Gh}{w w':World}(k:cB I N G w G' w'){ρ:List T}{ag:Bool}{cs:List Ce}{c:Value}(hn:∀i∈cJ cs,¬N i)
  (h:dU G w ρ ag cs c):dU G' w' ρ ag cs c:=by
 cases ag with
 |true=>obtain⟨vs,h1,h2⟩:=h;exact⟨vs,h1,h2.aG k hn⟩
 |false=>obtain⟨e,rfl,h2,h3⟩:=h;exact⟨e,rfl,h2.aG k hn,h3⟩
theorem eL.aG{I:Lb->Prop}{N:Nat->Prop}{G G':Gh}{w w':World}(k:cB I N G w G' w'){ρ:List T}:∀{cs:List (Bool×List Ce)} {vs:List Value},(∀i∈oK cs,¬N i)->
  eL G w ρ cs vs->eL G' w' ρ cs vs
 | [],[],_,_=>trivial
 | [],_::_,_,h=>h.elim
 |_::_,[],_,h=>h.elim
 |e::cs,v::vs,hn,h=>⟨h.1.aG k (λi hi=>hn i (by simp[oK,hi])),eL.aG k (λi hi=>hn i (by simp[oK,hi])) h.2⟩
theorem bY.aG{I:Lb->Prop}{N:Nat->Prop}{G G':Gh}{w w':World}(k:cB I N G w G' w'){ρ:List T}{v:SV}{c:Value}(hn:∀i∈cp v,¬N i)
  (h:bY G w ρ v c):bY G' w' ρ v c:=by
 cases v with
 |un=>trivial
 |v ag cs=>exact dU.aG k hn h
 |pt b off=>exact(by rw[bY,(k.nm b (hn b (by simp[cp]))).1];exact h)
 |ep id q ix wd off=>
  obtain⟨p,b,n,cap,i,h1,h2,h3⟩:=h
  exact⟨p,b,n,cap,i,h1,by rw[(k.nm id (hn id (by simp[cp]))).2 p ((xY h1).imp_right λh=>.inl (by omega))];exact h2,h3⟩
 |fp s ix wd off=>
  obtain⟨xs,i,r,b,base,h1,h2,h3,h4,h5⟩:=h
  refine⟨xs,i,r,b,base,h1,h2,h3,h4,λhr=>?_⟩
  obtain⟨h6,h7,h8⟩:=h5 hr
  obtain⟨h9,kf⟩:=k.free _ h7 h6
  refine⟨h9,Nat.lt_of_lt_of_le h7 k.size,λj t ht=>?_⟩
  obtain⟨u,hu,hd⟩:=h8 j t ht
  exact⟨u,by rw[O3 kf];exact hu,hd.aG k.size k.free⟩
 |tp vs=>obtain⟨us,h1,h2⟩:=h;exact⟨us,h1,h2.aG k hn⟩
 |cl f bs=>
  simp only[bY]at h⊢
  rw[h]
  congr 2
  exact List.map_congr_left λb hb=>by rw[(k.nm b (hn b (by simpa[cp]using hb))).1]
 |ob dp x=>exact h
 |fz pv x=>exact h
 |tk x m=>exact h
 |fl x=>exact h
 |fr x=>exact h
theorem eC.aG{I:Lb->Prop}{N:Nat->Prop}{G G':Gh}{w w':World}(k:cB I N G w G' w'){ρ:List T}{b:Nat}{v:SV}(hi:¬I (.x b))(hb:¬N b)(hn:∀i∈cp v,¬N i)
  (h:eC G w ρ b v):eC G' w' ρ b v:=by
 cases v with
 |v ag cs=>
  obtain⟨h1,aX,elem,h2,h3⟩:=h
  obtain⟨h4,h5⟩:=k.own _ _ h1 hi
  have xZ:=(k.nm b hb).1
  exact⟨by rw[xZ];exact h4,aX,elem,by rw[xZ];exact h5.trans h2,h3.aG k hn⟩
 |un=>trivial
 |_=>exact h
theorem mI.aG{ω:Nat->Option Lb}{w w':World}{H H':List (Nat×Nat)->Value}{n:Nat}{v:Value}{zs:List (List T)}(h:mI w H n v zs)(hd:du ω w (.l zs) v)
  (hf:∀b,b<w.heap.size->ω b=none->w'.heap[b]?=w.heap[b]?)(hH:∀p,p≠[]->H' p=H p):mI w' H' n v zs:=by
 intro b off k c hv
 obtain⟨wd,h1,h2⟩:=h b off k c hv
 refine⟨wd,h1,λi j ys aR=>?_⟩
 rw[hH _ (by simp),<-h2 i j ys aR]
 subst hv
 generalize hv:Value.slice (some (⟨b,off,none⟩:Addr)) k c=v at hd
 cases hd with
 |nil=>simp[cI]at aR
 |l g1 g2 g3 g4 g5 g6=>cases hv;exact O3 (hf _ g4 g3) _
theorem r_.aG{I:Lb->Prop}{N:Nat->Prop}{G G':Gh}{w w':World}(k:cB I N G w G' w'){ρ:List T}{pv:Pv}{v:Value}{t:T}(hd:du G.q w t v)(hn:∀x i,i∈cp (.fz pv x)->¬N i)
  (h:r_ G w ρ v t pv):r_ G' w' ρ v t pv:=by
 cases pv with
 |z=>trivial
 |w tk x lo=>
  obtain⟨h0,F,n,zs,h1,h2,rfl,h3,h4,h5⟩:=h
  refine⟨h0,F,n,zs,h1,h2,rfl,h3,h4.aG hd (λb hb h=>(k.free b hb h).2) λp _=>?_,h5⟩
  exact(k.nm tk (hn .e tk (by simp[cp]))).2 p (.inr (.inl (by omega)))
theorem bZ.aG{I:Lb->Prop}{N:Nat->Prop}{G G':Gh}{w w':World}(k:cB I N G w G' w'){ρ:List T}{id:Nat}{v:SV}(hi:∀p,¬I (.o id p))(hb:¬N id)(hn:∀i∈cp v,¬N i)
  (h:bZ G w ρ id v):bZ G' w' ρ id v:=by
 cases v with
 |ob dp x=>obtain⟨t,h1,h2⟩:=h;exact⟨t,h1,h2.aG k hi hb⟩
 |fz pv x=>
  obtain⟨t,h1,h2,h3⟩:=h
  have e:=(k.nm id hb).2 [] (.inl rfl)
  exact⟨t,h1,by rw[e];exact h2.aG k.size k.free,by rw[e];exact h3.aG k h2 (λ_ i hi=>hn i (by cases pv<;>exact hi))⟩
 |tk x m=>
  obtain⟨h0,F,u,h1,h2,h3,h4⟩:=h
  exact⟨h0,F,u,h1,h2,h3,λi r hr cP=>⟨(h4 i r hr cP).1,λj ys hy=>((h4 i r hr cP).2 j ys hy).aG k hi hb⟩⟩
 |fl x=>obtain⟨h0,t,h1,h2⟩:=h;exact⟨h0,t,h1,h2.aG k hi hb⟩
 |fr x=>
  obtain⟨h0,ys,h1,h2,h3,h4⟩:=h
  have e:=λp=>(k.nm id hb).2 p (.inr (.inr hi))
  refine⟨h0,ys,h1,by rw[e];exact h2.aG k.size k.free,by rw[e];exact h3.aG h2 (λb hb h=>(k.free b hb h).2) λp _=>e p,λi j zs hz=>(h4 i j zs hz).aG k hi hb⟩
 |un=>trivial
 |_=>exact h
theorem cB.refl(G:Gh)(w:World):cB (λ_=>False) (λ_=>False) G w G w:=
 ⟨Nat.le_refl _,λ_ _ h=>⟨h,rfl⟩,λ_ _ h=>h,λ_ _ h _=>⟨h,rfl⟩,λ_ _=>⟨rfl,λ_ _=>rfl⟩⟩
theorem cB.mono{I I':Lb->Prop}{N N':Nat->Prop}{G G':Gh}{w w':World}(k:cB I N G w G' w')(hI:∀l,I l->I' l)(hN:∀i,N i->N' i):cB I' N' G w G' w':=
 ⟨k.size,k.free,k.Ns,λb l hb hl=>k.own b l hb λh=>hl (hI l h),λi hi=>⟨(k.nm i λh=>hi (hN i h)).1,λp hp=>(k.nm i λh=>hi (hN i h)).2 p (hp.imp_right λh=>h.imp_right λh r hr=>h r (hI _ hr))⟩⟩
theorem cB.trans{I:Lb->Prop}{N:Nat->Prop}{G G' G'':Gh}{w w' O4:World}(k:cB I N G w G' w')(k':cB I N G' w' G'' O4):cB I N G w G'' O4:=by
 refine⟨Nat.le_trans k.size k'.size,λb hb h0=>?_,λb hb h0=>k'.Ns b (Nat.lt_of_lt_of_le hb k.size) (k.Ns b hb h0),λb l hb hl=>?_,λi hi=>?_⟩
 ·obtain⟨h1,h2⟩:=k.free b hb h0
  obtain⟨h3,h4⟩:=k'.free b (Nat.lt_of_lt_of_le hb k.size) h1
  exact⟨h3,h4.trans h2⟩
 ·obtain⟨h1,h2⟩:=k.own b l hb hl
  obtain⟨h3,h4⟩:=k'.own b l h1 hl
  exact⟨h3,h4.trans h2⟩
 ·exact⟨(k'.nm i hi).1.trans (k.nm i hi).1,λp hp=>((k'.nm i hi).2 p hp).trans ((k.nm i hi).2 p hp)⟩
theorem St.pT(s:St)(r:aM):s.get r=(s.look r).getD .un:=by
 induction s with
 |nil=>rfl
 |cons x s ih=>
  obtain⟨r',v⟩:=x
  cases h:r'.beq r<;>simp[St.get,St.look,h,ih]
theorem St.aE(s W:St)(r:aM):(s.dT W).get r=(W.look r).getD (s.get r):=by
 induction W with
 |nil=>rfl
 |cons x W ih=>
  obtain⟨r',v⟩:=x
  cases h:r'.beq r with
  |true=>
   have:=aM.beq_iff.1 h
   subst this
   simp[St.dT,St.bg,St.look,h]
  |false=>
   have cP:r'≠r:=λe=>by simp[aM.beq_iff.2 e]at h
   simp[St.dT,St.c9 _ _ cP,St.look,h,ih]
theorem St.aK(s:St)(r:aM)(v:SV):(s.set r v).look r=some v:=by
 induction s with
 |nil=>simp[St.set,St.look,(aM.beq_iff).2 rfl]
 |cons x s ih=>
  obtain⟨r',v'⟩:=x
  cases h:r'.beq r with
  |true=>simp[St.set,St.look,h,(aM.beq_iff).2 rfl]
  |false=>simp[St.set,St.look,h,ih]
theorem St.bJ(s:St){r r':aM}(v:SV)(h:r≠r'):(s.set r v).look r'=s.look r':=by
 have hb:r.beq r'=false:=by
  cases hh:r.beq r' with
  |false=>rfl
  |true=>exact absurd (aM.beq_iff.1 hh) h
 induction s with
 |nil=>simp[St.set,St.look,hb]
 |cons x s ih=>
  obtain⟨r2,v2⟩:=x
  cases h2:r2.beq r with
  |true=>
   have:=aM.beq_iff.1 h2
   subst this
   simp[St.set,St.look,h2,hb]
  |false=>
   cases h3:r2.beq r' with
   |true=>simp[St.set,St.look,h2,h3]
   |false=>simp[St.set,St.look,h2,h3,ih]
theorem St.vg(s:St)(R:List aM){r:aM}(h:r∈R):(s.only R).get r=s.get r:=by
 induction R with
 |nil=>cases h
 |cons x R ih=>
  simp only[St.only,St.get]
  cases hb:x.beq r with
  |true=>have:=aM.beq_iff.1 hb;subst this;rfl
  |false=>
   refine ih ?_
   cases h with
   |head=>simp[aM.beq_iff.2 rfl]at hb
   |tail _ h=>exact h
theorem St.oL(s:St)(R:List aM){r:aM}(h:r∉R):(s.only R).get r=.un:=by
 induction R with
 |nil=>rfl
 |cons x R ih=>
  simp only[St.only,St.get]
  have hb:x.beq r=false:=by
   cases hb:x.beq r with
   |false=>rfl
   |true=>exact absurd (aM.beq_iff.1 hb▸List.mem_cons_self) h
  rw[hb]
  exact ih λhm=>h (List.mem_cons_of_mem _ hm)
structure dt where
 w0:World
 lP:Nat->Option Lb
 bt:Nat->Option Nat
def GW:List (Nat×List Value):=[]
def x9(ω:Nat->Option Lb)(w:World):Prop:=∀x∈GW,x.1<w.heap.size∧ω x.1=none∧∃e z,w.heap[x.1]?=some (.cells x.2.toArray e z)
structure re (B:dt) (G:Gh) (w:World):Prop where
 os:w.os=B.w0.os
 tape:w.tape=B.w0.tape
 output:w.output=B.w0.output
 size:B.w0.heap.size<=w.heap.size
 free:∀b,b<B.w0.heap.size->B.lP b=none->G.ω b=none∧w.heap[b]?=B.w0.heap[b]?
 wU:∀b,B.lP b=some .f->G.ω b=some .f∧w.heap[b]?=B.w0.heap[b]?
 gl:x9 B.lP B.w0
theorem re.O5{B:dt}{G:Gh}{w:World}(h:re B G w):x9 G.ω w:=λx hx=>by
 obtain⟨h1,h2,e,z,h3⟩:=h.gl x hx
 obtain⟨h4,h5⟩:=h.free x.1 h1 h2
 exact⟨Nat.lt_of_lt_of_le h1 h.size,h4,e,z,h5.trans h3⟩
def mJ(up:Nat->Nat->Value)(d:Nat)(a:Act)(e n:Nat):Value:=if e=d then a.tmps.getD n undef else up e n
structure Rel (M:Nat->Prop) (B:dt) (d:Nat) (up:Nat->Nat->Value) (s:St) (ρ:List T) (G:Gh) (a:Act) (w:World):Prop where
 tm:∀e n,e<=d->bY G w ρ (s.get (.t e n)) (mJ up d a e n)
 bx:∀b,eC G w ρ b (s.get (.x b))
 ob:∀i,bZ G w ρ i (s.get (.o i))
 eD:∀r,∀i∈cp (s.get r),M i
 key:∀i,(s.get (.x i)≠.un∨s.get (.o i)≠.un)->M i
 fg:∀b l,G.ω b=some l->M l.id∧b<w.heap.size
 dn:a.defers=[]
 base:re B G w
 bt:∀i b,B.bt i=some b->M i∧G.β i=b
theorem Br{up:Nat->Nat->Value}{d:Nat}{a:Act}{dst:Option Nat}{v:Value}{e n:Nat}(h:¬(e=d∧dst=some n)):
  mJ up d (a.put dst v) e n=mJ up d a e n:=by
 unfold mJ
 split
 ·rename_i he
  cases dst with
  |none=>rfl
  |some m=>
   have cP:m≠n:=λhm=>h ⟨he,by rw[hm]⟩
   simp[Act.put,Array.getD_eq_getD_getElem?,Array.getElem?_setIfInBounds_ne cP]
 ·rfl
theorem ET{up:Nat->Nat->Value}{d:Nat}{a:Act}{v:Value}{n:Nat}(h:n<a.tmps.size):mJ up d (a.put (some n) v) d n=v:=by
 simp[mJ,Act.put,Array.getD_eq_getD_getElem?,h]
theorem Rel.mono{M M':Nat->Prop}{B:dt}{d:Nat}{up:Nat->Nat->Value}{s:St}{ρ:List T}{G:Gh}{a:Act}{w:World}(h:Rel M B d up s ρ G a w)
  (hM:∀i,M i->M' i):Rel M' B d up s ρ G a w:=
 ⟨h.tm,h.bx,h.ob,λr i hi=>hM i (h.eD r i hi),λi hi=>hM i (h.key i hi),λb l hl=>⟨hM _ (h.fg b l hl).1,(h.fg b l hl).2⟩,h.dn,h.base,λi b hb=>⟨hM i (h.bt i b hb).1,(h.bt i b hb).2⟩⟩
def lY(W:St):Lb->Prop
 | .f=>False
 | .x b=>W.look (.x b)≠none
 | .o i _=>W.look (.o i)≠none
theorem Rel.glue{M M':Nat->Prop}{B:dt}{d:Nat}{up:Nat->Nat->Value}{s s':St}{ρ:List T}{G:Gh}{a:Act}{w:World}(h:Rel M B d up s ρ G a w)
  {N:Nat->Prop}{G':Gh}{w':World}{W:St}(k:cB (lY W) N G w G' w'){dst:Option Nat}{v:Value}
  (hN:∀i,N i->¬M i)(hM:∀i,M i->M' i)
  (hd:∀n,dst=some n->W.look (.t d n)≠none)
  (hr:Rel M' B d up (s'.dT W) ρ G' (a.put dst v) w'):Rel M' B d up (s.dT W) ρ G' (a.put dst v) w':=by
 have hw:∀r u,W.look r=some u->(s'.dT W).get r=u:=λr u hu=>by rw[St.aE,hu];rfl
 refine⟨?_,?_,?_,?_,?_,hr.fg,hr.dn,hr.base,hr.bt⟩
 ·intro e n he
  rw[St.aE]
  cases hl:W.look (.t e n)with
  |some u=>have:=hr.tm e n he;rw[hw _ _ hl]at this;exact this
  |none=>
   rw[Br λ⟨h1,h2⟩=>hd n h2 (h1▸hl)]
   exact(h.tm e n he).aG k λi hi hn=>hN i hn (h.eD _ i hi)
 ·intro b
  rw[St.aE]
  cases hl:W.look (.x b)with
  |some u=>have:=hr.bx b;rw[hw _ _ hl]at this;exact this
  |none=>
   by_cases hu:s.get (.x b)=.un
   ·simp only[Option.getD_none,hu];trivial
   ·exact(h.bx b).aG k (λhk=>hk hl) (λhn=>hN b hn (h.key b (.inl hu))) λi hi hn=>hN i hn (h.eD _ i hi)
 ·intro i
  rw[St.aE]
  cases hl:W.look (.o i)with
  |some u=>have:=hr.ob i;rw[hw _ _ hl]at this;exact this
  |none=>
   by_cases hu:s.get (.o i)=.un
   ·simp only[Option.getD_none,hu];trivial
   ·exact(h.ob i).aG k (λp hk=>hk hl) (λhn=>hN i hn (h.key i (.inr hu))) λj hj hn=>hN j hn (h.eD _ j hj)
 ·intro r i hi
  rw[St.aE]at hi
  cases hl:W.look r with
  |some u=>rw[hl]at hi;refine hr.eD r i ?_;rw[hw _ _ hl];exact hi
  |none=>rw[hl]at hi;exact hM i (h.eD r i hi)
 ·intro i hi
  rw[St.aE,St.aE]at hi
  rcases hi with hi|hi
  ·cases hl:W.look (.x i)with
   |some u=>rw[hl]at hi;exact hr.key i (.inl (by rw[hw _ _ hl];exact hi))
   |none=>rw[hl]at hi;exact hM i (h.key i (.inl hi))
  ·cases hl:W.look (.o i)with
   |some u=>rw[hl]at hi;exact hr.key i (.inr (by rw[hw _ _ hl];exact hi))
   |none=>rw[hl]at hi;exact hM i (h.key i (.inr hi))
theorem Rel.x_{M:Nat->Prop}{B:dt}{d:Nat}{up:Nat->Nat->Value}{s:St}{ρ:List T}{G:Gh}{a:Act}{w:World}(h:Rel M B d up s ρ G a w)
  {n:Nat}{x:SV}{v:Value}(hn:n<a.tmps.size)(hr:bY G w ρ x v)(hm:∀i∈cp x,M i):
  Rel M B d up (s.set (.t d n) x) ρ G (a.put (some n) v) w:=by
 have hg:∀r,r≠.t d n->(s.set (.t d n) x).get r=s.get r:=λr hr=>St.c9 _ _ (Ne.symm hr)
 refine⟨λe m he=>?_,λb=>?_,λi=>?_,λr i hi=>?_,λi hi=>?_,h.fg,h.dn,h.base,h.bt⟩
 ·by_cases gJ:(aM.t e m)=.t d n
  ·cases gJ;rw[St.bg,ET hn];exact hr
  ·rw[hg _ gJ,Br λ⟨h1,h2⟩=>gJ (by cases h1;cases h2;rfl)];exact h.tm e m he
 ·rw[hg _ (by simp)];exact h.bx b
 ·rw[hg _ (by simp)];exact h.ob i
 ·by_cases gJ:r=.t d n
  ·subst gJ;rw[St.bg]at hi;exact hm i hi
  ·rw[hg _ gJ]at hi;exact h.eD r i hi
 ·rw[hg _ (by simp),hg _ (by simp)]at hi;exact h.key i hi
def aP(S:Nat->ay)(ρ:List T):Nat->List xq->Prop
 |_,[]=>True
 |e,.pr p xs::is=>∃n t,e=n+1∧p.ev (xs.map (Lf.ev ρ))=some t∧ρ[n]?=some t∧aP S ρ n is
 |e,.cl g xs m::is=>∃n ts,e=n+m∧S g (xs.map (Lf.ev ρ))=some ts∧(∀i,i<m->ρ[n+i]?=some (ts.getD i T.bX))∧aP S ρ n is
def Wk.aP(S:Nat->ay)(ρ:List T)(k:Wk):Prop:=Go.Proofs.YtbhplkilhknciaaC.aP S ρ k.ct.a k.is
structure Wk.dE (k k':Wk):Prop where
 r:k'.r=k.r
 w:k'.w=k.w
 i:k'.ct.i=k.ct.i
theorem Wk.dE.refl(k:Wk):k.dE k:=⟨rfl,rfl,rfl⟩
theorem Wk.dE.trans{a b c:Wk}(h:a.dE b)(h':b.dE c):a.dE c:=⟨h'.r.trans h.r,h'.w.trans h.w,h'.i.trans h.i⟩
theorem Wk.dE.get{k k':Wk}(h:k.dE k')(r:aM):k'.get r=k.get r:=by simp[Wk.get,h.r,h.w]
section
variable {S:Nat->ay} {ρ:List T}
theorem Wk.aS(k:Wk)(p:Prim)(xs:List Lf):k.dE (k.em p xs).1:=⟨rfl,rfl,rfl⟩
theorem Wk.be{k:Wk}{p:Prim}{xs:List Lf}(h:(k.em p xs).1.aP S ρ):
  k.aP S ρ∧∃t,p.ev (xs.map (Lf.ev ρ))=some t∧(k.em p xs).2.ej ρ=some t:=by
 obtain⟨n,t,h1,h2,h3,h4⟩:=h
 have:n=k.ct.a:=by simp[Wk.em]at h1;omega
 subst this
 exact⟨h4,t,h2,h3⟩
def fG:List (Nat×Nat)->T->Option T
 | [],t=>some t
 |(i,j)::p,.l xs=>(cI xs i j).bind (fG p)
 |_,_=>none
theorem EU{x:Lf}{i:Nat}(h:jT ρ x=some i):∃k,(x.ev ρ)=.c (.int k i):=by
 unfold jT at h
 split at h
 ·rename_i k n hx
  split at h
  ·rename_i h0
   cases h
   exact⟨k,by rw[Lf.aZ hx];congr 2;exact(Int.toNat_of_nonneg h0).symm⟩
  ·cases h
 ·cases h
theorem GX{xs:List (List T)}{k:IntKind}{i:Nat}:qW (.l xs) (.c (.int k (i:Int)))=xs[i]?:=by
 simp[qW,T.rows,T.int]
theorem yc{x ix:Lf}{w j i:Nat}{xs:List (List T)}{t:T}(hx:x.ej ρ=some (.l xs))(hi:jT ρ ix=some i)
  (h:Prim.ev (.jj w j) [x.ev ρ,ix.ev ρ]=some t):∃ys,t=.l ys∧cI xs i j=some (.l ys)∧∃r,xs[i]?=some r∧r.length=w:=by
 obtain⟨k,hk⟩:=EU hi
 rw[Lf.aZ hx,hk]at h
 simp only[Prim.ev,GX]at h
 cases hr:xs[i]? with
 |none=>simp[hr]at h
 |some r=>
  simp only[hr,Option.bind_some]at h
  split at h
  ·rename_i hl
   cases hj:r[j]? with
   |none=>simp[hj]at h
   |some u=>
    cases u with
    |c v=>simp[hj,T.rows]at h
    |l ys=>
     simp[hj,T.rows]at h
     exact⟨ys,h.symm,by simp[cI,hr,hj],r,rfl,hl⟩
  ·cases h
theorem Wk.dD:∀(q:lh) (k:Wk) (x:Lf),k.dE (k.down x q).1
 | [],k,x=>.refl k
 |(ix,w,j)::q,k,x=>by
  simp only[Wk.down]
  exact(Wk.aS k _ _).trans (Wk.dD q _ _)
theorem Wk.jo:∀(q:lh) (k:Wk) (x:Lf),(k.down x q).1.aP S ρ->k.aP S ρ
 | [],_,_,h=>h
 |(ix,w,j)::q,k,x,h=>(Wk.be (Wk.jo q _ _ h)).1
theorem Wk.fh:∀(q:lh) (k:Wk) (x:Lf) {t:T} {p:List (Nat×Nat)},(k.down x q).1.aP S ρ->x.ej ρ=some t->eK ρ q=some p->
  (q=[]∨∃xs,t=.l xs)->∃u,fG p t=some u∧(k.down x q).2.ej ρ=some u∧(q=[]∨∃ys,u=.l ys)
 | [],k,x,t,p,h,hx,hp,_=>by
  simp only[eK]at hp
  cases hp
  exact⟨t,rfl,hx,.inl rfl⟩
 |(ix,w,j)::q,k,x,t,p,h,hx,hp,ht=>by
  simp only[Wk.down]at h⊢
  obtain⟨xs,rfl⟩:=ht.resolve_left (by simp)
  simp only[eK]at hp
  cases hi:jT ρ ix with
  |none=>simp[hi]at hp
  |some i=>
   cases hq:eK ρ q with
   |none=>simp[hi,hq]at hp
   |some p'=>
    simp[hi,hq]at hp
    subst hp
    obtain⟨_,u,hu,O6⟩:=Wk.be (Wk.jo q _ _ h)
    obtain⟨ys,rfl,aR,_⟩:=yc hx hi hu
    obtain⟨v,hv,pB,hl⟩:=Wk.fh q _ _ h O6 hq (.inr ⟨ys,rfl⟩)
    refine⟨v,by simp[fG,aR,hv],pB,.inr ?_⟩
    rcases hl with rfl|hl
    ·simp only[eK]at hq
     cases hq
     simp[fG]at hv
     exact⟨ys,hv.symm⟩
    ·exact hl
def er(ω:Nat->Option Lb):Nat->Option Lb:=λb=>match ω b with
 |some (.x i)=>some (.x i)
 |some .f=>some .f
 |_=>none
theorem O7{ω:Nat->Option Lb}{b:Nat}(h:ω b=none):er ω b=none:=by simp[er,h]
theorem GY{G:Gh}{b:Nat}(h:G.q b=none):er G.ω b=none:=by
 rcases GV h with h0|⟨l,h1,h2⟩
 ·exact O7 h0
 ·cases l with
  |o i p=>simp[er,h1]
  |_=>simp[qt]at h2
theorem du.er{G:Gh}{w:World}{t:T}{c:Value}(h:du G.q w t c):du (er G.ω) w t c:=
 by
 induction h with
 |c h=>exact .c h
 |nil=>exact .nil
 |l hw hc hb bH h1 h2 ih=>exact .l hw hc (GY hb) bH h1 ih
theorem rf{w:World}{b:Nat}{aX:Array Value}{elem:TypeId}{fz:Nat×Nat}(h:w.heap[b]?=some (.cells aX elem fz))(off:Nat):
  w.cell? ⟨b,off,none⟩=aX[off]?:=by
 simp[World.cell?,h]
theorem z'{w:World}{b:Nat}{o:Obj}(h:w.heap[b]?=some o):b<w.heap.size:=(Array.getElem?_eq_some_iff.1 h).1
theorem pC{xs:List (List T)}{i j:Nat}{t:T}(h:cI xs i j=some t):∃r,xs[i]?=some r∧r∈xs∧r[j]?=some t∧i<xs.length∧j<r.length:=by
 unfold cI at h
 cases hr:xs[i]? with
 |none=>simp[hr]at h
 |some r=>
  simp[hr]at h
  exact⟨r,rfl,List.mem_of_getElem? hr,h,(List.getElem?_eq_some_iff.1 hr).1,(List.getElem?_eq_some_iff.1 h).1⟩
theorem dh.den{G:Gh}{w:World}{id:Nat}{dp:Bool}{p:List (Nat×Nat)}{t:T}(h:dh G w id dp p t):du (er G.ω) w t (G.H id p):=by
 induction h with
 |nil h=>rw[h];exact .nil
 | @l dp p xs b wd cap aX elem cv h1 h2 h3 h4 h5 h6 h7 h8 h9 kf _ ih=>
  rw[h1]
  refine .l (cv:=cv) h6 h2.1 (by simp[er,h3]) (z' h4) (λi j t ht=>?_) λi j t ht=>?_
  ·rw[rf h4,Nat.zero_add];exact h7 i j t ht
  ·cases t with
   |c v=>obtain⟨hv,hs⟩:=h8 i j v ht;rw[hv];exact .c hs
   |l ys=>
    cases hd:dp with
    |false=>exact(h9 i j ys ht hd).er
    |true=>rw[kf i j ys ht hd];exact ih i j ys ht hd
theorem dh.GZ{G:Gh}{w:World}{id:Nat}{dp:Bool}{p:List (Nat×Nat)}{t:T}(h:dh G w id dp p t)(hi:id%4=2∨(id%2=0∧p≠[]))(eA:dp=true):du G.q w t (G.H id p):=by
 induction h with
 |nil h=>rw[h];exact .nil
 | @l dp p xs b wd cap aX elem cv h1 h2 h3 h4 h5 h6 h7 h8 h9 kf pU ih=>
  rw[h1]
  refine .l (cv:=cv) h6 h2.1 (Bo h3 (hi.elim Bq λh=>pS h.1 h.2)) (z' h4) (λi j t ht=>?_) λi j t ht=>?_
  ·rw[rf h4,Nat.zero_add];exact h7 i j t ht
  ·cases t with
   |c v=>obtain⟨hv,hs⟩:=h8 i j v ht;rw[hv];exact .c hs
   |l ys=>rw[kf i j ys ht eA];exact ih i j ys ht eA (hi.imp_right λh=>⟨h.1,by simp⟩) rfl
theorem dh.jj{G:Gh}{w:World}{id:Nat}:∀(q:List (Nat×Nat)) {p:List (Nat×Nat)} {t u:T},dh G w id true p t->fG q t=some u->(∃ys,u=.l ys)->
  dh G w id true (p++q) u
 | [],p,t,u,h,hd,_=>by simp only[fG]at hd;cases hd;simpa using h
 |(i,j)::q,p,t,u,h,hd,hu=>by
  cases h with
  |nil=>simp[fG,cI]at hd
  | @l _ _ xs b wd cap aX elem cv h1 h2 h3 h4 h5 h6 h7 h8 h9 kf pU=>
   simp only[fG]at hd
   cases ha:cI xs i j with
   |none=>simp[ha]at hd
   |some v=>
    simp only[ha,Option.bind_some]at hd
    cases v with
    |c v=>
     cases q with
     |nil=>simp[fG]at hd;obtain⟨ys,rfl⟩:=hu;cases hd
     |cons a q=>simp[fG]at hd
    |l ys=>
     have:=dh.jj q (pU i j ys ha rfl) hd hu
     simpa using this
theorem Wk.cR{k k':Wk}{c:Ce}{x:Lf}(h:k.val c=some (k',x)):k.dE k':=by
 cases c with
 |p y=>simp[Wk.val]at h;obtain⟨rfl,_⟩:=h;exact .refl _
 |n=>simp[Wk.val]at h;obtain⟨rfl,_⟩:=h;exact .refl _
 |d=>simp[Wk.val]at h
 |o id q=>
  simp only[Wk.val]at h
  split at h
  ·simp only[aJ]at h
   have e1:=congrArg Prod.fst h
   simp only at e1
   subst e1
   exact Wk.dD q k _
  ·split at h
   ·simp at h;obtain⟨rfl,_⟩:=h;exact .refl _
   ·cases h
  ·split at h
   ·simp at h;obtain⟨rfl,_⟩:=h;exact .refl _
   ·cases h
  ·split at h
   ·simp at h;obtain⟨rfl,_⟩:=h;exact .refl _
   ·cases h
  ·cases h
theorem Wk.jV{k k':Wk}{c:Ce}{x:Lf}(h:k.val c=some (k',x))(hd:k'.aP S ρ):k.aP S ρ:=by
 cases c with
 |p y=>simp[Wk.val]at h;obtain⟨rfl,_⟩:=h;exact hd
 |n=>simp[Wk.val]at h;obtain⟨rfl,_⟩:=h;exact hd
 |d=>simp[Wk.val]at h
 |o id q=>
  simp only[Wk.val]at h
  split at h
  ·simp only[aJ]at h
   have e1:=congrArg Prod.fst h
   simp only at e1
   subst e1
   exact Wk.jo q _ _ hd
  ·split at h
   ·simp at h;obtain⟨rfl,_⟩:=h;exact hd
   ·cases h
  ·split at h
   ·simp at h;obtain⟨rfl,_⟩:=h;exact hd
   ·cases h
  ·split at h
   ·simp at h;obtain⟨rfl,_⟩:=h;exact hd
   ·cases h
  ·cases h
theorem Wk.jp{k k':Wk}{c:Ce}{x:Lf}{G:Gh}{w:World}{v:Value}(h:k.val c=some (k',x))(hd:k'.aP S ρ)
  (hr:eF G w ρ c v)(ho:∀id,id∈cJ [c]->bZ G w ρ id (k.get (.o id))):∃t,x.ej ρ=some t∧du (er G.ω) w t v:=by
 cases c with
 |p y=>simp[Wk.val]at h;obtain⟨_,rfl⟩:=h;obtain⟨t,h1,h2⟩:=hr;exact⟨t,h1,h2.er⟩
 |n=>simp[Wk.val]at h;obtain⟨_,rfl⟩:=h;cases hr;exact⟨_,rfl,.nil⟩
 |d=>simp[Wk.val]at h
 |o id q=>
  have cS:=ho id (by simp[cJ])
  obtain⟨p,hp,rfl⟩:=hr
  simp only[Wk.val]at h
  split at h
  ·rename_i y hk
   simp only[hk,bZ]at cS
   obtain⟨t,ht,aT⟩:=cS
   simp only[aJ]at h
   have e1:=congrArg Prod.fst h
   have e2:=congrArg Prod.snd h
   simp only at e1 e2
   subst e1 e2
   have hl:∃ys,t=.l ys:=by cases aT<;>exact⟨_,rfl⟩
   obtain⟨u,hu,hxu,lk⟩:=Wk.fh q k y hd ht (xX hp) (.inr hl)
   refine⟨u,hxu,?_⟩
   have Bs:∃ys,u=.l ys:=by
    rcases lk with rfl|h'
    ·simp only[ke]at hp;cases hp;simp[fG]at hu;subst hu;exact hl
    ·exact h'
   have:=(dh.jj p aT hu Bs).den
   simpa using this
  ·rename_i y hk
   split at h
   ·simp at h
    obtain⟨_,rfl⟩:=h
    simp only[hk,bZ]at cS
    obtain⟨t,ht,aT⟩:=cS
    simp only[ke]at hp;cases hp
    exact⟨t,ht,aT.den⟩
   ·cases h
  ·rename_i y hk
   split at h
   ·simp at h
    obtain⟨_,rfl⟩:=h
    simp only[hk,bZ]at cS
    obtain⟨t,ht,aT,_⟩:=cS
    simp only[ke]at hp;cases hp
    exact⟨t,ht,aT.er⟩
   ·cases h
  ·rename_i y hk
   split at h
   ·simp at h
    obtain⟨_,rfl⟩:=h
    simp only[hk,bZ]at cS
    obtain⟨_,t,ht,aT⟩:=cS
    simp only[ke]at hp;cases hp
    exact⟨t,ht,aT.den⟩
   ·cases h
  ·cases h
end
section
variable {M:Nat->Prop} {B:dt} {d:Nat} {up:Nat->Nat->Value} {s:St} {ρ:List T} {G:Gh} {a:Act} {w:World}
theorem Rel.forget(h:Rel M B d up s ρ G a w){s':St}(hs:∀r,s'.get r=s.get r∨s'.get r=.un):Rel M B d up s' ρ G a w:=by
 refine⟨λe n he=>?_,λb=>?_,λi=>?_,λr i hi=>?_,λi hi=>?_,h.fg,h.dn,h.base,h.bt⟩
 ·rcases hs (.t e n)with hr|hr
  ·rw[hr];exact h.tm e n he
  ·rw[hr];trivial
 ·rcases hs (.x b)with hr|hr
  ·rw[hr];exact h.bx b
  ·rw[hr];trivial
 ·rcases hs (.o i)with hr|hr
  ·rw[hr];exact h.ob i
  ·rw[hr];trivial
 ·rcases hs r with hr|hr
  ·rw[hr]at hi;exact h.eD r i hi
  ·rw[hr]at hi;simp[cp]at hi
 ·refine h.key i ?_
  rcases hi with hi|hi
  ·rcases hs (.x i)with hr|hr
   ·exact .inl (hr▸hi)
   ·exact absurd hr hi
  ·rcases hs (.o i)with hr|hr
   ·exact .inr (hr▸hi)
   ·exact absurd hr hi
theorem Rel.congr(h:Rel M B d up s ρ G a w){s':St}(hs:∀r,s'.get r=s.get r):Rel M B d up s' ρ G a w:=h.forget λr=>.inl (hs r)
def Gh.free(G:Gh)(id:Nat)(all:Bool):Gh:=
 {G with ω:=λb=>match G.ω b with
   |some (.o i p)=>if i=id∧(all=true∨p≠[])then none else some (.o i p)
   |l=>l}
theorem Gh.fi{G:Gh}{id b:Nat}{all:Bool}(h:G.ω b=none):(G.free id all).ω b=none:=by simp[Gh.free,h]
theorem Gh.nv{G:Gh}{id b i:Nat}{p:List (Nat×Nat)}{all:Bool}(h:G.ω b=some (.o i p))(hi:i=id)(ha:all=true∨p≠[]):(G.free id all).ω b=none:=by
 simp only[Gh.free,h]
 rw[if_pos ⟨hi,ha⟩]
theorem Gh.nw{G:Gh}{id b:Nat}{all:Bool}(h:G.q b=none):(G.free id all).q b=none:=by
 refine z_ h Gh.fi λl hl hq=>?_
 cases l with
 |o i p=>
  simp only[Gh.free,hl]
  split
  ·exact .inl rfl
  ·exact .inr ⟨_,rfl,hq⟩
 |_=>simp[qt]at hq
theorem Gh.dY(G:Gh)(id:Nat)(all:Bool)(w:World):cB (λl=>∃p,l=.o id p) (λ_=>False) G w (G.free id all) w:=by
 refine⟨Nat.le_refl _,λb _ hb=>⟨Gh.nw hb,rfl⟩,λb _ hb=>Gh.fi hb,λb l hb hl=>⟨?_,rfl⟩,λ_ _=>⟨rfl,λ_ _=>rfl⟩⟩
 cases l with
 |f=>simp[Gh.free,hb]
 |x i=>simp[Gh.free,hb]
 |o i p=>
  have:i≠id:=λe=>hl ⟨p,by rw[e]⟩
  simp[Gh.free,hb,this]
theorem dh.nx{id:Nat}{p:List (Nat×Nat)}{t:T}{dp:Bool}(h:dh G w id dp p t)(hp:p≠[])(eA:dp=true):du (G.free id false).q w t (G.H id p):=by
 induction h with
 |nil h=>rw[h];exact .nil
 | @l dp p xs b wd cap aX elem cv h1 h2 h3 h4 h5 h6 h7 h8 h9 kf pU ih=>
  rw[h1]
  refine .l (cv:=cv) h6 h2.1 (s6 (Gh.nv h3 rfl (.inr hp))) (z' h4) (λi j t ht=>?_) λi j t ht=>?_
  ·rw[rf h4,Nat.zero_add];exact h7 i j t ht
  ·cases t with
   |c v=>obtain⟨hv,hs⟩:=h8 i j v ht;rw[hv];exact .c hs
   |l ys=>rw[kf i j ys ht eA];exact ih i j ys ht eA (by simp) rfl
theorem dh.sa{id:Nat}{p:List (Nat×Nat)}{t:T}{dp:Bool}(h:dh G w id dp p t):du (G.free id true).q w t (G.H id p):=by
 induction h with
 |nil h=>rw[h];exact .nil
 | @l dp p xs b wd cap aX elem cv h1 h2 h3 h4 h5 h6 h7 h8 h9 kf pU ih=>
  rw[h1]
  refine .l (cv:=cv) h6 h2.1 (s6 (Gh.nv h3 rfl (.inl rfl))) (z' h4) (λi j t ht=>?_) λi j t ht=>?_
  ·rw[rf h4,Nat.zero_add];exact h7 i j t ht
  ·cases t with
   |c v=>obtain⟨hv,hs⟩:=h8 i j v ht;rw[hv];exact .c hs
   |l ys=>
    cases hd:dp with
    |false=>exact(h9 i j ys ht hd).aG (Nat.le_refl _) λb _ hb=>⟨Gh.nw hb,rfl⟩
    |true=>rw[kf i j ys ht hd];exact ih i j ys ht hd
theorem Rel.jY(h:Rel M B d up s ρ G a w){id:Nat}{dp:Bool}{x:Lf}(hx:s.get (.o id)=.ob dp x):
  Rel M B d up (s.set (.o id) (.fz .z x)) ρ (G.free id true) a w:=by
 have k:=G.dY id true w
 have hg:∀r,r≠.o id->(s.set (.o id) (.fz .z x)).get r=s.get r:=λr hr=>St.c9 _ _ (Ne.symm hr)
 refine⟨λe n he=>?_,λb=>?_,λi=>?_,λr i hi=>?_,λi hi=>?_,λb l hb=>?_,h.dn,?_,h.bt⟩
 ·rw[hg _ (by simp)];exact(h.tm e n he).aG k λ_ _ hn=>hn
 ·rw[hg _ (by simp)]
  exact(h.bx b).aG k (λ⟨p,hp⟩=>by cases hp) (λhn=>hn) λ_ _ hn=>hn
 ·by_cases hi:i=id
  ·subst hi
   rw[St.bg]
   obtain⟨t,ht,ho⟩:=(by simpa only[hx]using h.ob i:bZ G w ρ i (.ob dp x))
   exact⟨t,ht,ho.sa,trivial⟩
  ·rw[hg _ (by simpa using hi)];exact(h.ob i).aG k (λp ⟨q,hq⟩=>hi (by cases hq;rfl)) (λhn=>hn) λ_ _ hn=>hn
 ·by_cases hr:r=.o id
  ·subst hr;rw[St.bg]at hi;simp[cp]at hi
  ·rw[hg r hr]at hi;exact h.eD r i hi
 ·refine h.key i ?_
  rcases hi with hi|hi
  ·exact .inl (by rwa[hg _ (by simp)]at hi)
  ·by_cases oM:i=id
   ·subst oM;exact .inr (by rw[hx];simp)
   ·exact .inr (by rwa[hg _ (by simpa using oM)]at hi)
 ·refine h.fg b l ?_
  simp only[Gh.free]at hb
  split at hb
  ·split at hb
   ·cases hb
   ·rename_i hw _;rw[hw];exact hb
  ·exact hb
 ·refine⟨h.base.os,h.base.tape,h.base.output,h.base.size,λb hb h0=>?_,λb hb=>?_,h.base.gl⟩
  ·obtain⟨h1,h2⟩:=h.base.free b hb h0
   exact⟨Gh.fi h1,h2⟩
  ·obtain⟨h1,h2⟩:=h.base.wU b hb
   exact⟨by simp[Gh.free,h1],h2⟩
theorem Rel.flat(h:Rel M B d up s ρ G a w){id:Nat}{dp:Bool}{x:Lf}(hx:s.get (.o id)=.ob dp x):
  Rel M B d up (s.set (.o id) (.ob false x)) ρ (G.free id false) a w:=by
 have k:=G.dY id false w
 have hg:∀r,r≠.o id->(s.set (.o id) (.ob false x)).get r=s.get r:=λr hr=>St.c9 _ _ (Ne.symm hr)
 refine⟨λe n he=>?_,λb=>?_,λi=>?_,λr i hi=>?_,λi hi=>?_,λb l hb=>?_,h.dn,?_,h.bt⟩
 ·rw[hg _ (by simp)];exact(h.tm e n he).aG k λ_ _ hn=>hn
 ·rw[hg _ (by simp)]
  exact(h.bx b).aG k (λ⟨p,hp⟩=>by cases hp) (λhn=>hn) λ_ _ hn=>hn
 ·by_cases hi:i=id
  ·subst hi
   rw[St.bg]
   obtain⟨t,ht,ho⟩:=(by simpa only[hx]using h.ob i:bZ G w ρ i (.ob dp x))
   refine⟨t,ht,?_⟩
   cases ho with
   |nil h=>exact .nil h
   | @l _ _ xs b wd cap aX elem cv h1 h2 h3 h4 h5 h6 h7 h8 h9 kf pU=>
    refine .l (cv:=cv) h1 h2 (by simp[Gh.free,h3]) h4 h5 h6 h7 h8 (λp j ys hy _=>?_) (λ_ _ _ _ hf=>by cases hf) (λ_ _ _ _ hf=>by cases hf)
    cases hd:dp with
    |false=>exact(h9 p j ys hy hd).aG (Nat.le_refl _) λb _ hb=>⟨Gh.nw hb,rfl⟩
    |true=>rw[kf p j ys hy hd];exact(pU p j ys hy hd).nx (by simp) rfl
  ·rw[hg _ (by simpa using hi)];exact(h.ob i).aG k (λp ⟨q,hq⟩=>hi (by cases hq;rfl)) (λhn=>hn) λ_ _ hn=>hn
 ·by_cases hr:r=.o id
  ·subst hr;rw[St.bg]at hi;simp[cp]at hi
  ·rw[hg r hr]at hi;exact h.eD r i hi
 ·refine h.key i ?_
  rcases hi with hi|hi
  ·exact .inl (by rwa[hg _ (by simp)]at hi)
  ·by_cases oM:i=id
   ·subst oM;exact .inr (by rw[hx];simp)
   ·exact .inr (by rwa[hg _ (by simpa using oM)]at hi)
 ·refine h.fg b l ?_
  simp only[Gh.free]at hb
  split at hb
  ·split at hb
   ·cases hb
   ·rename_i hw _;rw[hw];exact hb
  ·exact hb
 ·refine⟨h.base.os,h.base.tape,h.base.output,h.base.size,λb hb h0=>?_,λb hb=>?_,h.base.gl⟩
  ·obtain⟨h1,h2⟩:=h.base.free b hb h0
   exact⟨Gh.fi h1,h2⟩
  ·obtain⟨h1,h2⟩:=h.base.wU b hb
   exact⟨by simp[Gh.free,h1],h2⟩
end
def rh:List Ce->List Value->Bool
 | [],[]=>true
 | .p (.k (.int k n))::cs,.int k' n'::vs=>decide (k=k')&&decide (n=n')&&rh cs vs
 | .p (.k (.bool b))::cs,.bool b'::vs=>decide (b=b')&&rh cs vs
 | .p (.k (.string x))::cs,.string x'::vs=>decide (x=x')&&rh cs vs
 | .n::cs,.slice none 0 0::vs=>rh cs vs
 |_,_=>false
def EV(P:Program):List (Nat×Nat)->List Field->Bool
 | [],[]=>true
 |o::os,f::fs=>Nat.beq f.offset o.1&&(match P.info? f.type with|some i=>!Nat.beq i.size 0&&Nat.beq i.size o.2|none=>false)&&EV P os fs
 |_,_=>false
def oN(P:Program):Nat->List Ce->List Field->Bool
 |_,[],[]=>true
 |i,z::zs,f::fs=>Nat.beq f.offset i&&decide (f.name≠"_")&&(match P.underlying f.type with|some (.int _)=>Nat.beq (jZ z) 1|some .bool=>Nat.beq (jZ z) 4|some .string=>Nat.beq (jZ z) 2|_=>false)&&oN P (i+1) zs fs
 |_,_,_=>false
def O8(P:Program)(t:Nat)(ti:TI):Bool:=
 match P.info? t,P.underlying t with
 |some i,some u=>
  Nat.beq i.size ti.sz&&Nat.beq i.bytes ti.bytes&&(match i.zero with|some z=>rh ti.zero z.cells.toList|none=>false)&&Nat.beq ti.zero.length ti.sz&&
  (match u with
   | .struct fs=>ti.ag&&(Nat.beq ti.kd 0||(Nat.beq ti.kd 5&&Nat.beq fs.size ti.sz&& !P.stoodInHeld t&& !P.eqGuardType P.depth t&&oN P 0 ti.zero fs.toList))&&EV P ti.fs fs.toList
   | .array ..=>false
   | .slice e=>!ti.ag&&Nat.beq ti.sz 1&&Nat.beq ti.kd 3&&Nat.beq e ti.el&&ti.fs.isEmpty
   | .int kk=>!ti.ag&&Nat.beq ti.sz 1&&Nat.beq ti.kd 1&&(match ti.zero with| [.p (.k (.int k' _))]=>decide (kk=k')|_=>false)&&ti.fs.isEmpty
   | .string=>!ti.ag&&Nat.beq ti.sz 1&&Nat.beq ti.kd 2&&ti.fs.isEmpty
   | .bool=>!ti.ag&&Nat.beq ti.sz 1&&Nat.beq ti.kd 4&&ti.fs.isEmpty
   |_=>!ti.ag&&Nat.beq ti.sz 1&&Nat.beq ti.kd 0&&ti.fs.isEmpty)
 |_,_=>false
def vh:List Ce->List Value->Prop
 | [],[]=>True
 | .p (.k v)::cs,v'::vs=>v=v'∧ib v=true∧vh cs vs
 | .n::cs,v::vs=>v=.slice none 0 0∧vh cs vs
 |_,_=>False
theorem O9:∀{cs:List Ce} {vs:List Value},rh cs vs=true->vh cs vs:=by
 intro cs
 induction cs with
 |nil=>intro vs h;cases vs<;>simp_all[rh,vh]
 |cons c cs ih=>
  intro vs h
  cases vs with
  |nil=>cases c<;>simp_all[rh]
  |cons v vs=>
   cases c with
   |p x=>
    cases x with
    |k u=>
     cases u<;>cases v<;>simp_all[rh,vh,ib]
    |a n=>simp[rh]at h
    |e=>simp[rh]at h
   |o id q=>simp[rh]at h
   |n=>
    cases v with
    |slice a l c=>
     unfold rh at h
     split at h<;>simp_all[vh]
    |_=>simp[rh]at h
   |d=>simp[rh]at h
structure pV (P:Program) (t:Nat) (ti:TI):Prop where
 info:∃i z,P.info? t=some i∧i.size=ti.sz∧i.bytes=ti.bytes∧i.zero=some z∧vh ti.zero z.cells.toList
 vi:ti.zero.length=ti.sz
 one:ti.ag=false->ti.sz=1
 ag:∃u,P.underlying t=some u∧(ti.ag=true↔∃fs,u=.struct fs)∧(∀n e,u≠.array n e)
 sl:ti.kd=3->P.underlying t=some (.slice ti.el)
 it:ti.kd=1->∃k,P.underlying t=some (.int k)
 st:ti.kd=2->P.underlying t=some .string
 ik:ti.kd=1->∀k n,ti.zero=[.p (.k (.int k n))]->P.underlying t=some (.int k)
 bo:ti.kd=4->P.underlying t=some .bool
 ni:ti.kd≠1->∀k,P.underlying t≠some (.int k)
 fs:∀(f:Nat) (o:Nat×Nat),ti.fs[f]?=some o->∃(fs:Array Field) (uk:Field) (i:TypeInfo),P.underlying t=some (.struct fs)∧fs[f]?=some uk∧uk.offset=o.1∧P.info? uk.type=some i∧i.size≠0∧i.size=o.2
 fl:∀fs,P.underlying t=some (.struct fs)->fs.size=ti.fs.length
 eq:ti.kd=5->∃fs:Array Field,P.underlying t=some (.struct fs)∧fs.size=ti.sz∧P.stoodInHeld t=false∧P.eqGuardType P.depth t=false∧oN P 0 ti.zero fs.toList=true
theorem Bt{P:Program}:∀{os:List (Nat×Nat)} {fs:List Field},EV P os fs=true->fs.length=os.length∧∀(f:Nat) (o:Nat×Nat),os[f]?=some o->
  ∃(uk:Field) (i:TypeInfo),fs[f]?=some uk∧uk.offset=o.1∧P.info? uk.type=some i∧i.size≠0∧i.size=o.2
 | [],[],_=>⟨rfl,λf o h=>by simp at h⟩
 | [],_::_,h=>by simp[EV]at h
 |o::os,[],h=>by simp[EV]at h
 |o::os,fl::fs,h=>by
  simp only[EV,bB]at h
  obtain⟨⟨h1,h2⟩,h3⟩:=h
  obtain⟨hl,hr⟩:=Bt h3
  refine⟨by simp[hl],λf o' hf=>?_⟩
  cases f with
  |zero=>
   simp at hf
   subst hf
   cases hi:P.info? fl.type with
   |none=>simp[hi]at h2
   |some i=>
    simp only[hi,bB]at h2
    exact⟨fl,i,rfl,cK h1,hi,λe=>by simp[e]at h2,cK h2.2⟩
  |succ f=>exact hr f o' (by simpa using hf)
theorem O_{P:Program}{t:Nat}{ti:TI}(h:O8 P t ti=true):pV P t ti:=by
 unfold O8 at h
 split at h
 ·rename_i i u hi hu
  simp only[bB]at h
  obtain⟨⟨⟨⟨h1,h2⟩,h3⟩,h4⟩,h5⟩:=h
  have z:∃z,i.zero=some z∧vh ti.zero z.cells.toList:=by
   split at h3
   ·rename_i z hz;exact⟨z,hz,O9 h3⟩
   ·cases h3
  obtain⟨z,hz,ri⟩:=z
  refine⟨⟨i,z,hi,cK h1,cK h2,hz,ri⟩,cK h4,?_,⟨u,hu,?_,?_⟩,?_,?_,?_,?_,?_,?_,?_,?_,?_⟩
  ·intro ha;split at h5<;>simp_all
  ·split at h5<;>simp_all
  ·intro n e cP;subst cP;simp at h5
  ·intro hk;rw[hu];split at h5<;>simp_all
  ·intro hk;rw[hu];split at h5<;>simp_all
  ·intro hk;rw[hu];split at h5<;>simp_all
  ·intro hk k n hz
   rw[hu]
   rw[hz,hk]at h5
   split at h5
   ·simp only[bB,Bool.or_eq_true]at h5
    obtain⟨⟨_,h6⟩,_⟩:=h5
    rcases h6 with h6|⟨⟨⟨⟨h6,_⟩,_⟩,_⟩,_⟩<;>exact absurd h6 (by decide)
   ·cases h5
   ·simp only[bB]at h5
    exact absurd h5.1.1.2 (by decide)
   ·simp only[bB,decide_eq_true_eq]at h5
    rw[h5.1.2]
   all_goals
    simp only[bB]at h5
    exact absurd h5.1.2 (by decide)
  ·intro hk;rw[hu];split at h5<;>simp_all
  ·intro hk k cP;rw[hu]at cP;cases cP;simp at h5;exact hk h5.1.1.2
  ·intro f o hf
   rw[hu]
   split at h5
   ·rename_i fs
    simp only[bB]at h5
    obtain⟨uk,i',h6,h7⟩:=(Bt h5.2).2 f o hf
    exact⟨fs,uk,i',rfl,by simpa using h6,h7⟩
   ·cases h5
   all_goals
    simp only[bB,List.isEmpty_iff]at h5
    rw[h5.2]at hf
    simp at hf
  ·intro fs wV
   rw[hu]at wV
   cases wV
   simp only[bB]at h5
   have:=(Bt h5.2).1
   simpa using this
  ·intro hk
   rw[hu]
   split at h5
   ·rename_i fs
    simp only[bB,Bool.or_eq_true,Bool.not_eq_true']at h5
    obtain⟨⟨_,h6⟩,_⟩:=h5
    rcases h6 with h6|⟨⟨⟨⟨_,h7⟩,h8⟩,h9⟩,kf⟩
    ·have:=cK h6;omega
    ·exact⟨fs,rfl,cK h7,h8,h9,kf⟩
   ·cases h5
   all_goals
    simp[hk]at h5
 ·cases h
section
variable {M:Nat->Prop} {B:dt} {d:Nat} {up:Nat->Nat->Value} {ρ:List T} {G:Gh} {a:Act} {w:World} {S:Nat->ay}
structure cC (M:Nat->Prop) (B:dt) (d:Nat) (up:Nat->Nat->Value) (ρ:List T) (G:Gh) (a:Act) (w:World) (k:Wk) (G1:Gh):Prop where
 rel:Rel M B d up (k.r.dT k.w) ρ G1 a w
 aG:cB (lY k.w) (λ_=>False) G w G1 w
theorem Wk.aE(k:Wk)(r:aM):k.get r=(k.r.dT k.w).get r:=by
 rw[St.aE]
 unfold Wk.get
 cases k.w.look r<;>rfl
theorem Aa{W:St}{r:aM}{v:SV}{l:Lb}(h:lY W l):lY (W.set r v) l:=by
 cases l with
 |f=>exact h
 |x b=>
  show(W.set r v).look (.x b)≠none
  by_cases hr:r=.x b
  ·subst hr;rw[St.aK];simp
  ·rw[St.bJ _ _ hr];exact h
 |o i p=>
  show(W.set r v).look (.o i)≠none
  by_cases hr:r=.o i
  ·subst hr;rw[St.aK];simp
  ·rw[St.bJ _ _ hr];exact h
theorem Ab(s W:St)(r:aM)(v:SV)(r':aM):(s.dT (W.set r v)).get r'=((s.dT W).set r v).get r':=by
 rw[St.aE]
 by_cases h:r=r'
 ·subst h;rw[St.aK,St.bg];rfl
 ·rw[St.bJ _ _ h,St.c9 _ _ h,St.aE]
theorem cC.start{s:St}(h:Rel M B d up s ρ G a w)(R:List aM)(ct:Ct):cC M B d up ρ G a w ⟨s.only R,[],ct,[]⟩ G:=by
 refine⟨h.forget λr=>?_,(cB.refl G w).mono (λ_ h=>h.elim) λ_ h=>h⟩
 by_cases hr:r∈R
 ·exact .inl (St.vg s R hr)
 ·exact .inr (St.oL s R hr)
theorem cC.same{k k':Wk}{G1:Gh}(h:cC M B d up ρ G a w k G1)(hs:k.dE k'):cC M B d up ρ G a w k' G1:=by
 obtain⟨h1,h2,h3⟩:=hs
 exact⟨by rw[h1,h2];exact h.rel,by rw[h2];exact h.aG⟩
theorem cC.obj{k:Wk}{G1:Gh}(h:cC M B d up ρ G a w k G1)(id:Nat):bZ G1 w ρ id (k.get (.o id)):=by
 rw[Wk.aE];exact h.rel.ob id
theorem cC.jY{k k':Wk}{G1:Gh}(h:cC M B d up ρ G a w k G1){id:Nat}(hk:k.jY id=some k'):
  ∃G2,cC M B d up ρ G a w k' G2∧G2.β=G1.β∧G2.H=G1.H∧k'.r=k.r∧k'.ct=k.ct∧k'.is=k.is:=by
 unfold Wk.jY at hk
 split at hk
 ·rename_i dp x hx
  cases hk
  rw[Wk.aE]at hx
  refine⟨_,⟨(h.rel.jY hx).congr (Ab _ _ _ _),(h.aG.mono (λl hl=>Aa hl) λ_ hn=>hn).trans ((G1.dY id true w).mono ?_ λ_ hn=>hn)⟩,rfl,rfl,rfl,rfl,rfl⟩
  rintro l ⟨p,rfl⟩
  show(k.w.set _ _).look (.o id)≠none
  rw[St.aK];simp
 ·cases hk;exact⟨G1,h,rfl,rfl,rfl,rfl,rfl⟩
 ·cases hk
theorem cC.flat{k k':Wk}{G1:Gh}(h:cC M B d up ρ G a w k G1){id:Nat}(hk:k.flat id=some k'):
  ∃G2,cC M B d up ρ G a w k' G2∧G2.β=G1.β∧G2.H=G1.H∧k'.r=k.r∧k'.ct=k.ct∧k'.is=k.is:=by
 unfold Wk.flat at hk
 split at hk
 ·rename_i dp x hx
  cases hk
  rw[Wk.aE]at hx
  refine⟨_,⟨(h.rel.flat hx).congr (Ab _ _ _ _),(h.aG.mono (λl hl=>Aa hl) λ_ hn=>hn).trans ((G1.dY id false w).mono ?_ λ_ hn=>hn)⟩,rfl,rfl,rfl,rfl,rfl⟩
  rintro l ⟨p,rfl⟩
  show(k.w.set _ _).look (.o id)≠none
  rw[St.aK];simp
 ·cases hk;exact⟨G1,h,rfl,rfl,rfl,rfl,rfl⟩
 ·cases hk
def a_(P:Program)(M:Nat->Prop)(B:dt)(d:Nat)(up:Nat->Nat->Value)(ρ:List T)(a:Act)(w:World)(s:St)(o:Oper)(W:St)(Q:Exit->Act->World->Prop):Prop:=
 o.wp P a w (λa' w'=>∃G',Rel M B d up (s.dT W) ρ G' a' w'∧a'.tmps.size=a.tmps.size) Q
theorem ul(a:Act)(dst:Option Nat)(v:Value):(a.put dst v).tmps.size=a.tmps.size:=by
 cases dst<;>simp[Act.put]
theorem O'{P:Program}{s:St}{k:Wk}{G1:Gh}(h:Rel M B d up s ρ G a w)(hk:cC M B d up ρ G a w k G1){o:Oper}{n:Nat}(ho:o.dst=some n)(hn:n<a.tmps.size)
  {v:Value}(hx:(execOp a.eval o).run P w=.ok (.value v) w){x:SV}(hv:bY G1 w ρ x v)(hm:∀i∈cp x,M i)(Q:Exit->Act->World->Prop):
  a_ P M B d up ρ a w s o (k.w.set (.t d n) x) Q:=by
 simp only[a_,Oper.wp,hx,Oper.upon,ho]
 refine⟨G1,h.glue (s':=k.r) (hk.aG.mono (λl hl=>Aa hl) λ_ hf=>hf) (λ_ hf=>hf.elim) (λ_ hm=>hm) ?_ ?_,ul _ _ _⟩
 ·intro m um;cases um;rw[St.aK];simp
 ·exact(hk.rel.x_ hn hv hm).congr (Ab _ _ _ _)
theorem Pa{P:Program}{s:St}{k:Wk}{G1:Gh}(h:Rel M B d up s ρ G a w)(hk:cC M B d up ρ G a w k G1){o:Oper}(ho:o.dst=none)
  {v:Value}(hx:(execOp a.eval o).run P w=.ok (.value v) w)(Q:Exit->Act->World->Prop):
  a_ P M B d up ρ a w s o k.w Q:=by
 simp only[a_,Oper.wp,hx,Oper.upon,ho]
 exact⟨G1,h.glue (s':=k.r) (dst:=none) (hk.aG.mono (λl hl=>hl) λ_ hf=>hf) (λ_ hf=>hf.elim) (λ_ hm=>hm) (λ_ hf=>by cases hf) hk.rel,rfl⟩
theorem Pb{v:Value}:bY G w ρ (uV v) v:=by
 unfold uV
 split
 ·exact⟨_,rfl,rfl,λ_ h=>by cases h⟩
 ·rename_i cP
  cases hs:ib v with
  |false=>trivial
  |true=>
   refine⟨_,rfl,⟨.c v,by simp[Lf.ej,hs],.c hs⟩,λx h=>?_⟩
   subst h;simp[ib]at hs
theorem Pc{v:Value}:cp (uV v)=[]:=by
 unfold uV
 split
 ·rfl
 ·cases ib v<;>rfl
theorem wW{s:St}(h:Rel M B d up s ρ G a w)(x:Operand):bY G w ρ (bz d s.get x) (a.eval x)∧∀i∈cp (bz d s.get x),M i:=by
 cases x with
 |tmp t=>
  refine⟨?_,h.eD _⟩
  have:=h.tm d t (Nat.le_refl _)
  simpa[mJ,Act.eval,bz]using this
 |const v=>exact⟨Pb,λi hi=>by simp[bz,Pc]at hi⟩
 |global g=>exact⟨trivial,λi hi=>by simp[bz,cp]at hi⟩
 |func f=>exact⟨rfl,λi hi=>by simp[bz,cp]at hi⟩
theorem cC.fH{k:Wk}{G1:Gh}(h:cC M B d up ρ G a w k G1)(x:Operand):bY G1 w ρ (bz d k.get x) (a.eval x)∧∀i∈cp (bz d k.get x),M i:=by
 have e:bz d k.get x=bz d (k.r.dT k.w).get x:=by
  cases x with
  |tmp t=>exact Wk.aE _ _
  |_=>rfl
 rw[e];exact wW h.rel x
theorem Wk.eM{k k':Wk}{x:SV}{y:Lf}{G1:Gh}{v:Value}(hk:cC M B d up ρ G a w k G1)(h:k.one x=some (k',y))(hd:k'.aP S ρ)(hr:bY G1 w ρ x v):
  k.aP S ρ∧k.dE k'∧∃t,y.ej ρ=some t∧du (er G1.ω) w t v:=by
 unfold Wk.one at h
 split at h
 ·obtain⟨e,he,hc,_⟩:=hr
  cases he
  exact⟨Wk.jV h hd,Wk.cR h,Wk.jp h hd hc λid _=>hk.obj id⟩
 ·cases h
theorem du.scalar{ω:Nat->Option Lb}{v u:Value}(h:du ω w (.c v) u):u=v∧ib v=true:=by
 cases h with
 |c h=>exact⟨rfl,h⟩
theorem du.rows{ω:Nat->Option Lb}{xs:List (List T)}{u:Value}(h:du ω w (.l xs) u):∃b c,u=.slice b xs.length c∧(xs≠[]->xs.length<=c):=by
 cases h with
 |nil=>exact⟨_,_,rfl,λh=>absurd rfl h⟩
 |l _ hc=>exact⟨_,_,rfl,λ_=>hc⟩
end
section
variable {M:Nat->Prop} {B:dt} {d:Nat} {up:Nat->Nat->Value} {ρ:List T} {G:Gh} {a:Act} {w:World} {S:Nat->ay} {P:Program}
def bm(d:Nat)(o:Oper)(k:Wk)(v:SV):Wk:=match o.dst with|some n=>k.set (.t d n) v|none=>k
theorem oO{s:St}{k:Wk}{G1:Gh}(h:Rel M B d up s ρ G a w)(hk:cC M B d up ρ G a w k G1){o:Oper}(hn:∀n,o.dst=some n->n<a.tmps.size)
  {v:Value}(hx:(execOp a.eval o).run P w=.ok (.value v) w){x:SV}(hv:bY G1 w ρ x v)(hm:∀i∈cp x,M i)(Q:Exit->Act->World->Prop):
  a_ P M B d up ρ a w s o (bm d o k x).w Q:=by
 unfold bm
 cases ho:o.dst with
 |none=>exact Pa h hk ho hx Q
 |some n=>exact O' h hk ho (hn n ho) hx hv hm Q
theorem G0{G1:Gh}{y:Lf}{t:T}{v:Value}(hy:y.ej ρ=some t)(hd:du G1.q w t v)(ha:∀x,v≠.agg x):bY G1 w ρ (.v false [.p y]) v:=
 ⟨_,rfl,⟨t,hy,hd⟩,ha⟩
theorem Nt{G1:Gh}{y:Lf}{v:Value}(hy:y.ej ρ=some (.c v))(hs:ib v=true):bY G1 w ρ (.v false [.p y]) v:=
 G0 hy (.c hs) λx hx=>by subst hx;simp[ib]at hs
theorem Pf{op:BinOp}{t:TypeId}{x y:Operand}{u v r:Value}(h:gH op u v=some r):
  ((do eqGuard op t x y u v;binOp op t u v:Sem Value)).run P w=.ok r w∧ib r=true:=by
 cases u<;>cases v<;>simp only[gH]at h<;>try cases h
 ·rename_i k n k' m
  have hg:(eqGuard op t x y (.int k n) (.int k' m)).run P w=.ok () w:=by
   unfold eqGuard;split<;>rfl
  rw[Sem.run_bind,hg]
  cases op<;>simp only at h<;>(repeat' (split at h))<;>(try cases h)<;>
   simp_all[binOp,Op.intArith,Op.intDiv,Op.intCmp,Op.intBits,Op.shift,ib]<;>(intro aeY;omega)
 ·rename_i s t'
  have hg:(eqGuard op t x y (.string s) (.string t')).run P w=.ok () w:=by
   unfold eqGuard;split<;>rfl
  rw[Sem.run_bind,hg]
  cases op<;>simp only at h<;>(try cases h)
  ·split at h
   ·rename_i hs
    cases h
    refine⟨?_,rfl⟩
    have:¬((s.size+t'.size:Nat):Int)>IntKind.i64.max:=by
     have:IntKind.i64.max=9223372036854775807:=by rfl
     simp only[qD]at hs
     omega
    simp only[Result.andThen_ok,binOp,Op.stringOp,if_neg this,Sem.run_pure]
   ·cases h
  ·exact⟨rfl,rfl⟩
  ·exact⟨rfl,rfl⟩
theorem Pg{op:BinOp}{t:TypeId}{x y:Operand}{u v r:Value}(ht:P.underlying t=some .bool)(h:A3 op u v=some r):
  ((do eqGuard op t x y u v;binOp op t u v:Sem Value)).run P w=.ok r w∧ib r=true:=by
 cases u<;>cases v<;>simp only[A3]at h<;>try cases h
 rename_i p q
 have hg:(eqGuard op t x y (.bool p) (.bool q)).run P w=.ok () w:=by
  unfold eqGuard;split<;>rfl
 have he:(Op.equal t (.bool p) (.bool q)).run P w=.ok (p==q) w:=by
  have key:∀n,(Op.equalIn (n+1) t (.bool p) (.bool q)).run P w=.ok (p==q) w:=λn=>by
   simp only[Op.equalIn,Sem.run_bind,run_underlying ht,Result.andThen_ok,Sem.run_pure]
  exact key 9999
 rw[Sem.run_bind,hg]
 cases op<;>simp only at h<;>(try cases h)
 ·simp[binOp,he,ib]
 ·simp[binOp,he,ib]
theorem Ph{op:UnOp}{u r:Value}(h:Np op u=some r):(Op.unary op u).run P w=.ok r w∧ib r=true:=by
 cases u<;>simp only[Np]at h<;>try cases h
 ·cases op<;>simp only at h<;>(try cases h)
  exact⟨rfl,rfl⟩
 ·cases op<;>simp only at h<;>(try cases h)
  exact⟨rfl,rfl⟩
theorem G4{k k1 k2:Wk}{G1:Gh}{c e:Ce}{x y:Lf}{u v:Value}{p:Prim}(hk:cC M B d up ρ G a w k G1)
  (h1:k.val c=some (k1,x))(h2:k1.val e=some (k2,y))(hd:(k2.em p [x,y]).1.aP S ρ)(hc:eF G1 w ρ c u)(he:eF G1 w ρ e v):
  k.aP S ρ∧cC M B d up ρ G a w (k2.em p [x,y]).1 G1∧(k2.em p [x,y]).1.ct.i=k.ct.i∧∃t t' r,du (er G1.ω) w t u∧du (er G1.ω) w t' v∧p.ev [t,t']=some r∧(k2.em p [x,y]).2.ej ρ=some r:=by
 obtain⟨oq,r,hr,jk⟩:=Wk.be hd
 have EW:=hk.same (Wk.cR h1)
 have dN:=EW.same (Wk.cR h2)
 have eo:=Wk.jV h2 oq
 obtain⟨t,ht,kg⟩:=Wk.jp h1 eo hc λid _=>hk.obj id
 obtain⟨t',hY,ko⟩:=Wk.jp h2 oq he λid _=>EW.obj id
 refine⟨Wk.jV h1 eo,dN.same (Wk.aS _ _ _),?_,t,t',r,kg,ko,?_,jk⟩
 ·rw[(Wk.aS k2 p [x,y]).i,(Wk.cR h2).i,(Wk.cR h1).i]
 ·simpa[Lf.aZ ht,Lf.aZ hY]using hr
structure cW (P:Program) (cx:Cx):Prop where
 ty:∀t ti,cx.ty t=some ti->pV P t ti
variable {cx:Cx} {bW dR oi:Nat} {s:St} {R:List aM} {ct:Ct} {k':Wk} {o:Oper} {Q:Exit->Act->World->Prop}
theorem G5(h:Rel M B d up s ρ G a w)(hn:∀n,o.dst=some n->n<a.tmps.size){x:Operand}(ho:o.op=.move x∨o.op=.assign x)
  (hk:gb cx bW dR d o oi ⟨s.only R,[],ct,[]⟩=some k'):a_ P M B d up ρ a w s o k'.w Q∧k'.ct.i=ct.i:=by
 have hw:=cC.start h R ct
 have hx:(execOp a.eval o).run P w=.ok (.value (a.eval x)) w:=by
  unfold execOp;rcases ho with ho|ho<;>rw[ho]<;>rfl
 have dN:some (bm d o ⟨s.only R,[],ct,[]⟩ (bz d (Wk.get ⟨s.only R,[],ct,[]⟩) x))=some k':=by
  rw[<-hk];unfold gb bm;rcases ho with ho|ho<;>rw[ho]<;>rfl
 cases dN
 obtain⟨h1,h2⟩:=hw.fH x
 refine⟨oO h hw hn hx h1 h2 Q,?_⟩
 unfold bm;cases o.dst<;>rfl
theorem b_{k:Wk}{v:SV}:(bm d o k v).aP S ρ↔k.aP S ρ:=by
 unfold bm;cases o.dst<;>rfl
theorem ll{k:Wk}{v:SV}:(bm d o k v).ct=k.ct:=by
 unfold bm;cases o.dst<;>rfl
theorem Pj(cN:cW P cx)(h:Rel M B d up s ρ G a w)(hn:∀n,o.dst=some n->n<a.tmps.size){op:BinOp}{t yt:TypeId}{x y:Operand}(ho:o.op=.binOp op t x y yt)
  {c e:Ce}(s8:bz d (Wk.get ⟨s.only R,[],ct,[]⟩) x=.v false [c])(yd:bz d (Wk.get ⟨s.only R,[],ct,[]⟩) y=.v false [e])
  (hk:gb cx bW dR d o oi ⟨s.only R,[],ct,[]⟩=some k')(hd:k'.aP S ρ):a_ P M B d up ρ a w s o k'.w Q∧k'.ct.i=ct.i:=by
 have hw:=cC.start h R ct
 simp only[gb,ho,s8,yd,bQ]at hk
 obtain⟨ti,ed,⟨k1,x1⟩,h1,⟨k2,y1⟩,h2,hk⟩:=hk
 have sb:=(hw.fH x).1
 have Bu:=(hw.fH y).1
 rw[s8]at sb
 rw[yd]at Bu
 obtain⟨_,mK,hc,_⟩:=sb
 obtain⟨_,Pk,he,_⟩:=Bu
 cases mK
 cases Pk
 simp only at hk
 have hT:=cN.ty _ _ ed
 have fin:∀(p:Prim) (r:Value),(bm d o (k2.em p [x1,y1]).1 (.v false [.p (k2.em p [x1,y1]).2]))=k'->(execOp a.eval o).run P w=.ok (.value r) w->ib r=true->
   (k2.em p [x1,y1]).2.ej ρ=some (.c r)->cC M B d up ρ G a w (k2.em p [x1,y1]).1 G->(k2.em p [x1,y1]).1.ct.i=ct.i->a_ P M B d up ρ a w s o k'.w Q∧k'.ct.i=ct.i:=by
  intro p r hp hr hs hv qH hi
  subst hp
  refine⟨oO h qH hn hr (Nt hv hs) (λi hi=>by simp[cp,cJ]at hi) Q,?_⟩
  rw[ll];exact hi
 have hex:∀r,((do eqGuard op t x y (a.eval x) (a.eval y);binOp op t (a.eval x) (a.eval y):Sem Value)).run P w=.ok r w->(execOp a.eval o).run P w=.ok (.value r) w:=by
  intro r hr
  unfold execOp
  rw[ho]
  show Sem.run P (do let v <-(do eqGuard op t x y (a.eval x) (a.eval y);binOp op t (a.eval x) (a.eval y):Sem Value);pure (Next.value v)) w=_
  rw[Sem.run_bind,hr];rfl
 cases h4:Nat.beq ti.kd 4 with
 |true=>
  simp only[h4,cond_true,aJ]at hk
  have rk:(k2.em (.bb op) [x1,y1]).1.aP S ρ:=by
   have:(bm d o (k2.em (.bb op) [x1,y1]).1 (.v false [.p (k2.em (.bb op) [x1,y1]).2])).aP S ρ:=by rw[show bm d o _ _=k' from hk];exact hd
   exact b_.1 this
  obtain⟨_,qH,hi,t1,t2,r,eo,oq,hp,hv⟩:=G4 hw h1 h2 rk hc he
  cases t1 with
  |l _=>simp[Prim.ev,T.val]at hp
  |c u=>
   cases t2 with
   |l _=>simp[Prim.ev,T.val]at hp
   |c v=>
    obtain⟨e1,_⟩:=eo.scalar
    obtain⟨e2,_⟩:=oq.scalar
    simp only[Prim.ev,T.val,Option.bind_some,bQ,aJ]at hp
    obtain⟨r',hb,rfl⟩:=hp
    obtain⟨hr,hs⟩:=Pg (P:=P) (w:=w) (t:=t) (x:=x) (y:=y) (hT.bo (cK h4)) hb
    exact fin _ r' hk (hex r' (by rw[e1,e2];exact hr)) hs hv qH hi
 |false=>
  simp only[h4,cond_false]at hk
  cases h5:(Nat.beq ti.kd 1||Nat.beq ti.kd 2)with
  |false=>simp[h5]at hk
  |true=>
   simp only[h5,cond_true,aJ]at hk
   have rk:(k2.em (.bin op) [x1,y1]).1.aP S ρ:=by
    have:(bm d o (k2.em (.bin op) [x1,y1]).1 (.v false [.p (k2.em (.bin op) [x1,y1]).2])).aP S ρ:=by rw[show bm d o _ _=k' from hk];exact hd
    exact b_.1 this
   obtain⟨_,qH,hi,t1,t2,r,eo,oq,hp,hv⟩:=G4 hw h1 h2 rk hc he
   cases t1 with
   |l _=>simp[Prim.ev,T.val]at hp
   |c u=>
    cases t2 with
    |l _=>simp[Prim.ev,T.val]at hp
    |c v=>
     obtain⟨e1,_⟩:=eo.scalar
     obtain⟨e2,_⟩:=oq.scalar
     simp only[Prim.ev,T.val,Option.bind_some,bQ,aJ]at hp
     obtain⟨r',hb,rfl⟩:=hp
     obtain⟨hr,hs⟩:=Pf (P:=P) (w:=w) (t:=t) (x:=x) (y:=y) hb
     exact fin _ r' hk (hex r' (by rw[e1,e2];exact hr)) hs hv qH hi
end
section
variable {M:Nat->Prop} {B:dt} {d:Nat} {up:Nat->Nat->Value} {ρ:List T} {G:Gh} {a:Act} {w:World} {S:Nat->ay} {P:Program}
variable {cx:Cx} {bW dR oi:Nat} {s:St} {R:List aM} {ct:Ct} {k':Wk} {o:Oper} {Q:Exit->Act->World->Prop}
theorem vj(h:Rel M B d up s ρ G a w)(hn:∀n,o.dst=some n->n<a.tmps.size){k k1:Wk}{G1:Gh}(hk:cC M B d up ρ G a w k G1){x:SV}{v:Value}{y:Lf}{p:Prim}
  (h1:k.one x=some (k1,y))(hr:bY G1 w ρ x v)(hd:(bm d o (k1.em p [y]).1 (.v false [.p (k1.em p [y]).2])).aP S ρ)
  (hx:∀t r,du (er G1.ω) w t v->p.ev [t]=some r->∃u,r=.c u∧ib u=true∧(execOp a.eval o).run P w=.ok (.value u) w):
  a_ P M B d up ρ a w s o (bm d o (k1.em p [y]).1 (.v false [.p (k1.em p [y]).2])).w Q∧(bm d o (k1.em p [y]).1 (.v false [.p (k1.em p [y]).2])).ct.i=k.ct.i:=by
 have rk:=b_.1 hd
 obtain⟨eo,r,mL,hv⟩:=Wk.be rk
 obtain⟨_,hs,t,ht,kg⟩:=Wk.eM hk h1 eo hr
 obtain⟨u,rfl,Pl,c_⟩:=hx t r kg (by simpa[Lf.aZ ht]using mL)
 refine⟨oO h ((hk.same hs).same (Wk.aS _ _ _)) hn c_ (Nt hv Pl) (λi hi=>by simp[cp,cJ]at hi) Q,?_⟩
 rw[ll,(Wk.aS k1 p [y]).i,hs.i]
theorem G6(h:Rel M B d up s ρ G a w)(hn:∀n,o.dst=some n->n<a.tmps.size){k k1 k2:Wk}{G1:Gh}(hk:cC M B d up ρ G a w k G1){x x':SV}{v v':Value}{y y':Lf}{p:Prim}
  (h1:k.one x=some (k1,y))(h2:k1.one x'=some (k2,y'))(hr:bY G1 w ρ x v)(gJ:bY G1 w ρ x' v')(hd:(bm d o (k2.em p [y,y']).1 (.v false [.p (k2.em p [y,y']).2])).aP S ρ)
  (hx:∀t t' r,du (er G1.ω) w t v->du (er G1.ω) w t' v'->p.ev [t,t']=some r->∃u,r=.c u∧ib u=true∧(execOp a.eval o).run P w=.ok (.value u) w):
  a_ P M B d up ρ a w s o (bm d o (k2.em p [y,y']).1 (.v false [.p (k2.em p [y,y']).2])).w Q∧(bm d o (k2.em p [y,y']).1 (.v false [.p (k2.em p [y,y']).2])).ct.i=k.ct.i:=by
 have rk:=b_.1 hd
 obtain⟨oq,r,mL,hv⟩:=Wk.be rk
 have jl:k.dE k1:=by
  unfold Wk.one at h1;split at h1
  ·exact Wk.cR h1
  ·cases h1
 obtain⟨eo,lZ,t',hY,ko⟩:=Wk.eM (hk.same jl) h2 oq gJ
 obtain⟨_,_,t,ht,kg⟩:=Wk.eM hk h1 eo hr
 obtain⟨u,rfl,Pl,c_⟩:=hx t t' r kg ko (by simpa[Lf.aZ ht,Lf.aZ hY]using mL)
 refine⟨oO h (((hk.same jl).same lZ).same (Wk.aS _ _ _)) hn c_ (Nt hv Pl) (λi hi=>by simp[cp,cJ]at hi) Q,?_⟩
 rw[ll,(Wk.aS k2 p [y,y']).i,lZ.i,jl.i]
theorem Pm(h:Rel M B d up s ρ G a w)(hn:∀n,o.dst=some n->n<a.tmps.size){op:UnOp}{t:TypeId}{x:Operand}(ho:o.op=.unOp op t x)
  (hk:gb cx bW dR d o oi ⟨s.only R,[],ct,[]⟩=some k')(hd:k'.aP S ρ):a_ P M B d up ρ a w s o k'.w Q∧k'.ct.i=ct.i:=by
 have hw:=cC.start h R ct
 simp only[gb,ho,bQ,aJ]at hk
 obtain⟨⟨k1,y⟩,h1,hk⟩:=hk
 subst hk
 refine vj h hn hw h1 (hw.fH x).1 hd λt r kg hr=>?_
 cases t with
 |l _=>simp[Prim.ev,T.val]at hr
 |c u=>
  obtain⟨e,_⟩:=kg.scalar
  simp only[Prim.ev,T.val,Option.bind_some,bQ,aJ]at hr
  obtain⟨r',hb,rfl⟩:=hr
  obtain⟨c_,hs⟩:=Ph (P:=P) (w:=w) hb
  refine⟨r',rfl,hs,?_⟩
  unfold execOp;rw[ho]
  show Sem.run P (do let v <-Op.unary op (a.eval x);pure (Next.value v)) w=_
  rw[e,Sem.run_bind,c_];rfl
theorem Pn(ns:List Int):∀s:ByteArray,ns.foldl (λr n=>r.push (UInt8.ofNat n.toNat)) s=⟨s.data++(ns.map λn=>UInt8.ofNat n.toNat).toArray⟩:=by
 induction ns with
 |nil=>intro s;simp
 |cons n ns ih=>intro s;rw[List.foldl_cons,ih];simp[ByteArray.push]
theorem Po(ns:List Int):ns.foldl (λr n=>r.push (UInt8.ofNat n.toNat)) ByteArray.empty=uU ns:=by
 rw[Pn];unfold uU;congr 1;exact Array.empty_append
theorem G7:∀{xs:List (List T)} {ns:List Int},ER xs=some ns->ns.length=xs.length∧∀(j:Nat) (n:Int),ns[j]?=some n->xs[j]?=some [T.c (.int .u8 n)]
 | [],ns,h=>by
  simp only[ER,aJ]at h
  subst h
  exact⟨rfl,λj n h=>by simp at h⟩
 |r::rs,ns,h=>by
  simp only[ER,bQ,aJ]at h
  obtain⟨n,h1,ns',h2,rfl⟩:=h
  obtain⟨g1,g2⟩:=G7 h2
  refine⟨by simp[g1],λj m hj=>?_⟩
  cases j with
  |zero=>
   simp only[List.getElem?_cons_zero,aJ]at hj⊢
   subst hj
   unfold GI at h1
   split at h1
   ·cases h1;rfl
   ·cases h1
  |succ j=>simpa using g2 j m (by simpa using hj)
theorem Pp{ω:Nat->Option Lb}{xs:List (List T)}{v:Value}{ns:List Int}(h:du ω w (.l xs) v)(hb:ER xs=some ns):(Conv.bytesToString v).run P w=.ok (.string (uU ns)) w:=by
 obtain⟨hlen,aR⟩:=G7 hb
 rw[<-Po]
 cases h with
 |nil=>
  have:ns=[]:=List.eq_nil_of_length_eq_zero hlen
  subst this
  rename_i a0 cap
  cases a0 with
  |none=>simp[Conv.bytesToString,Sem.run_pure]
  |some b=>exact run_bytesToString w b 0 cap [] (run_loadCells_list w b [] λj v hj=>by simp at hj)
 |l hw hc hn bH h1 h2=>
  rename_i b off wd cap cv
  refine run_bytesToString w _ _ _ ns ?_
  rw[<-hlen,<-List.length_map (f:=Value.int .u8)]
  refine run_loadCells_list w _ _ λj v hj=>?_
  rw[List.getElem?_map,Option.map_eq_some_iff]at hj
  obtain⟨n,hj,rfl⟩:=hj
  have hx:=aR j n hj
  have lm:wd=1:=by
   have:=hw _ (List.mem_of_getElem? hx)
   simpa using this.symm
  subst lm
  have h3:cI xs j 0=some (.c (.int .u8 n)):=by simp[cI,hx]
  have h5:=h1 j 0 _ h3
  rw[(h2 j 0 _ h3).scalar.1]at h5
  rw[Addr.add_lit,show off+j=off+(j*1+0) by omega]
  exact h5
theorem Pq(cN:cW P cx)(h:Rel M B d up s ρ G a w)(hn:∀n,o.dst=some n->n<a.tmps.size){t1 t2:TypeId}{x:Operand}(ho:o.op=.convert t1 t2 x)
  (hk:gb cx bW dR d o oi ⟨s.only R,[],ct,[]⟩=some k')(hd:k'.aP S ρ):a_ P M B d up ρ a w s o k'.w Q∧k'.ct.i=ct.i:=by
 have hw:=cC.start h R ct
 simp only[gb,ho,bQ]at hk
 obtain⟨si,G8,ti,ed,⟨k1,y⟩,h1,hk⟩:=hk
 split at hk
 ·rename_i kk z hz
  cases hb:(Nat.beq ti.kd 1&&Nat.beq si.kd 1)with
  |false=>rw[hb]at hk;cases hk
  |true=>
   rw[hb]at hk
   simp only[cond_true,aJ]at hk
   subst hk
   rw[bB]at hb
   have s9:=(cN.ty _ _ ed).ik (cK hb.1) kk z hz
   obtain⟨k0,sd⟩:=(cN.ty _ _ G8).it (cK hb.2)
   refine vj h hn hw h1 (hw.fH x).1 hd λt r kg hr=>?_
   cases t with
   |l _=>simp[Prim.ev]at hr
   |c u=>
    obtain⟨e,_⟩:=kg.scalar
    cases u<;>simp only[Prim.ev,aJ]at hr<;>try cases hr
    rename_i k3 n kh
    refine⟨_,rfl,rfl,?_⟩
    unfold execOp;rw[ho]
    show Sem.run P (do let v <-convert t1 t2 (a.eval x);pure (Next.value v)) w=_
    rw[e,Sem.run_bind]
    have:(convert t1 t2 (.int k3 n)).run P w=.ok (.int kk (kk.wrap n)) w:=by
     unfold convert
     simp only[Sem.run_bind,run_underlying sd,run_underlying s9,Result.andThen_ok]
     rfl
    rw[this];rfl
 ·rename_i z hz
  cases hb:(Nat.beq ti.kd 2&&Nat.beq si.kd 3)with
  |false=>rw[hb]at hk;cases hk
  |true=>
   rw[hb]at hk
   simp only[cond_true,bQ]at hk
   obtain⟨te,mM,hk⟩:=hk
   split at hk
   ·rename_i z2 oP
    cases mU:Nat.beq te.kd 1 with
    |false=>rw[mU]at hk;cases hk
    |true=>
     rw[mU]at hk
     simp only[cond_true,aJ]at hk
     subst hk
     rw[bB]at hb
     have sd:=(cN.ty _ _ G8).sl (cK hb.2)
     have s9:=(cN.ty _ _ ed).st (cK hb.1)
     have Pr:=(cN.ty _ _ mM).ik (cK mU) .u8 z2 oP
     refine vj h hn hw h1 (hw.fH x).1 hd λt r kg hr=>?_
     cases t with
     |c u=>simp[Prim.ev]at hr
     |l xs=>
      simp only[Prim.ev,bQ,aJ]at hr
      obtain⟨ns,hns,rfl⟩:=hr
      refine⟨_,rfl,rfl,?_⟩
      unfold execOp;rw[ho]
      show Sem.run P (do let v <-convert t1 t2 (a.eval x);pure (Next.value v)) w=_
      rw[Sem.run_bind]
      obtain⟨b,c,e,_⟩:=kg.rows
      have:(convert t1 t2 (a.eval x)).run P w=.ok (.string (uU ns)) w:=by
       have h0:=Pp (P:=P) kg hns
       rw[e]at h0⊢
       rw[run_convert_bytes_string w t1 t2 si.el b xs.length c sd Pr s9]
       exact h0
      rw[this];rfl
   ·cases hk
 ·cases hk
theorem Bv{x:Sem Value}{v:Value}(h:x.run P w=.ok v w):(do let v <-x;pure (Next.value v):Sem Next).run P w=.ok (.value v) w:=by
 rw[Sem.run_bind,h];rfl
theorem EX{c:Call}{b:Builtin}(ho:o.op=.call c)(hc:c.callee=.builtin b){r:Result Next}
  (h:(builtin b c.argTypes o.type (c.args.map λ | .const _=>true|_=>false) (c.args.map a.eval)).run P w=r):(execOp a.eval o).run P w=r:=by
 unfold execOp
 rw[ho]
 show Sem.run P (do let d <-resolve a.eval c o.type;invoke d.target d.args) w=r
 simp only[resolve,hc]
 exact h
theorem Ps(h:Rel M B d up s ρ G a w)(hn:∀n,o.dst=some n->n<a.tmps.size)(cN:cW P cx){c:Call}{x:Operand}(ho:o.op=.call c)(hc:c.callee=.builtin .len)(dv:c.args.toList=[x])
  {ti:TI}(ht:(c.argTypes[0]?).bind cx.ty=some ti)(mV:ti.kd=3){k k1:Wk}{G1:Gh}{y:Lf}(hw:cC M B d up ρ G a w k G1)
  (h1:k.one (bz d k.get x)=some (k1,y))(hd:(bm d o (k1.em .len [y]).1 (.v false [.p (k1.em .len [y]).2])).aP S ρ):
  a_ P M B d up ρ a w s o (bm d o (k1.em .len [y]).1 (.v false [.p (k1.em .len [y]).2])).w Q∧(bm d o (k1.em .len [y]).1 (.v false [.p (k1.em .len [y]).2])).ct.i=k.ct.i:=by
 refine vj h hn hw h1 (hw.fH x).1 hd λt r kg hr=>?_
 have hA:c.args=#[x]:=Array.ext' dv
 cases wX:c.argTypes[0]? with
 |none=>simp[wX]at ht
 |some tt=>
  have hT:=cN.ty tt ti (by simpa[wX]using ht)
  have hu:=hT.sl mV
  cases t with
  |l xs=>
   obtain⟨b,cap,e,_⟩:=kg.rows
   simp only[Prim.ev,aJ]at hr
   subst hr
   refine⟨_,rfl,rfl,EX ho hc ?_⟩
   rw[hA]
   refine Bv ?_
   simp[e,Builtin.len_,wX,run_underlying hu,goInt]
  |c v=>simp[Prim.ev]at hr
theorem Pu(h:Rel M B d up s ρ G a w)(hn:∀n,o.dst=some n->n<a.tmps.size)(cN:cW P cx){c:Call}{x:Operand}(ho:o.op=.call c)(hc:c.callee=.builtin .len)(dv:c.args.toList=[x])
  {ti:TI}(ht:(c.argTypes[0]?).bind cx.ty=some ti)(mV:ti.kd=2){k k1:Wk}{G1:Gh}{y:Lf}(hw:cC M B d up ρ G a w k G1)
  (h1:k.one (bz d k.get x)=some (k1,y))(hd:(bm d o (k1.em .lens [y]).1 (.v false [.p (k1.em .lens [y]).2])).aP S ρ):
  a_ P M B d up ρ a w s o (bm d o (k1.em .lens [y]).1 (.v false [.p (k1.em .lens [y]).2])).w Q∧(bm d o (k1.em .lens [y]).1 (.v false [.p (k1.em .lens [y]).2])).ct.i=k.ct.i:=by
 refine vj h hn hw h1 (hw.fH x).1 hd λt r kg hr=>?_
 have hA:c.args=#[x]:=Array.ext' dv
 cases wX:c.argTypes[0]? with
 |none=>simp[wX]at ht
 |some tt=>
  have hT:=cN.ty tt ti (by simpa[wX]using ht)
  have hu:=hT.st mV
  cases t with
  |l xs=>simp[Prim.ev]at hr
  |c v=>
   obtain⟨e,hs⟩:=kg.scalar
   cases v with
   |string str=>
    simp only[Prim.ev,aJ]at hr
    subst hr
    refine⟨_,rfl,rfl,EX ho hc ?_⟩
    rw[hA]
    refine Bv ?_
    simp[e,Builtin.len_,wX,run_underlying hu,goInt]
   |_=>simp[Prim.ev]at hr
theorem G9(h:Rel M B d up s ρ G a w)(hn:∀n,o.dst=some n->n<a.tmps.size){c:Call}{x x':Operand}(ho:o.op=.call c)(dv:c.args.toList=[x,x'])
  {p:Prim}(hc:c.callee=.builtin .max∧p=.mx∨c.callee=.builtin .min∧p=.mn){k k1 k2:Wk}{G1:Gh}{y y':Lf}(hw:cC M B d up ρ G a w k G1)
  (h1:k.one (bz d k.get x)=some (k1,y))(h2:k1.one (bz d k.get x')=some (k2,y'))(hd:(bm d o (k2.em p [y,y']).1 (.v false [.p (k2.em p [y,y']).2])).aP S ρ):
  a_ P M B d up ρ a w s o (bm d o (k2.em p [y,y']).1 (.v false [.p (k2.em p [y,y']).2])).w Q∧(bm d o (k2.em p [y,y']).1 (.v false [.p (k2.em p [y,y']).2])).ct.i=k.ct.i:=by
 refine G6 h hn hw h1 h2 (hw.fH x).1 (hw.fH x').1 hd λt t' r kg ko hr=>?_
 have hA:c.args=#[x,x']:=Array.ext' dv
 cases t with
 |l _=>rcases hc with⟨_,rfl⟩|⟨_,rfl⟩<;>simp[Prim.ev]at hr
 |c u=>
  cases t' with
  |l _=>rcases hc with⟨_,rfl⟩|⟨_,rfl⟩<;>cases u<;>simp[Prim.ev]at hr
  |c u'=>
   obtain⟨e,_⟩:=kg.scalar
   obtain⟨e',_⟩:=ko.scalar
   cases u<;>cases u'<;>rcases hc with⟨hc,rfl⟩|⟨hc,rfl⟩<;>simp only[Prim.ev,aJ]at hr<;>try cases hr
   ·exact⟨_,rfl,rfl,EX ho hc (by rw[hA];simp[builtin,Builtin.max_,Builtin.max2,e,e'])⟩
   ·exact⟨_,rfl,rfl,EX ho hc (by rw[hA];simp[builtin,Builtin.min_,Builtin.min2,e,e'])⟩
theorem wY{x:Sem Value}{v:Value}(he:execOp a.eval o=(do let v <-x;pure (Next.value v)))(h:x.run P w=.ok v w):(execOp a.eval o).run P w=.ok (.value v) w:=by
 rw[he];exact Bv h
theorem Pw(h:Rel M B d up s ρ G a w)(hn:∀n,o.dst=some n->n<a.tmps.size){x x':Operand}{t:TypeId}(ho:o.op=.index t x x')(cN:cW P cx){ti:TI}(ht:cx.ty t=some ti)(mV:ti.kd=2)
  {k k1 k2:Wk}{G1:Gh}{y y':Lf}(hw:cC M B d up ρ G a w k G1)
  (h1:k.one (bz d k.get x)=some (k1,y))(h2:k1.one (bz d k.get x')=some (k2,y'))(hd:(bm d o (k2.em .idx [y,y']).1 (.v false [.p (k2.em .idx [y,y']).2])).aP S ρ):
  a_ P M B d up ρ a w s o (bm d o (k2.em .idx [y,y']).1 (.v false [.p (k2.em .idx [y,y']).2])).w Q∧(bm d o (k2.em .idx [y,y']).1 (.v false [.p (k2.em .idx [y,y']).2])).ct.i=k.ct.i:=by
 refine G6 h hn hw h1 h2 (hw.fH x).1 (hw.fH x').1 hd λt1 t2 r kg ko hr=>?_
 have hu:=(cN.ty _ _ ht).st mV
 cases t1 with
 |l _=>cases t2<;>simp[Prim.ev]at hr
 |c u=>
  cases t2 with
  |l _=>cases u<;>simp[Prim.ev]at hr
  |c u'=>
   obtain⟨e,_⟩:=kg.scalar
   obtain⟨e',_⟩:=ko.scalar
   cases u with
   |string str=>
    cases u' with
    |int kk n=>
     simp only[Prim.ev]at hr
     split at hr
     ·rename_i h0
      split at hr
      ·rename_i bH
       simp only[aJ]at hr
       subst hr
       refine⟨_,rfl,rfl,wY (x:=Instr.index t (a.eval x) (a.eval x')) (by unfold execOp;rw[ho]) ?_⟩
       have hg:str[n.toNat]?=some (str.get n.toNat bH):=by
        simp[getElem?_pos,bH];rfl
       simp[Instr.index,e,e',asIntOf,run_underlying hu,h0,hg]
      ·cases hr
     ·cases hr
    |_=>simp[Prim.ev]at hr
   |_=>cases u'<;>simp[Prim.ev]at hr
theorem Px(h:Rel M B d up s ρ G a w)(hn:∀n,o.dst=some n->n<a.tmps.size){x:Operand}(ho:o.op=.nilCheck x)
  (hk:gb cx bW dR d o oi ⟨s.only R,[],ct,[]⟩=some k'):a_ P M B d up ρ a w s o k'.w Q∧k'.ct.i=ct.i:=by
 have hw:=cC.start h R ct
 obtain⟨hr,hm⟩:=hw.fH x
 have key:∀(v:SV) (ad:Addr),bz d (Wk.get ⟨s.only R,[],ct,[]⟩) x=v->a.eval x=.pointer (some ad)->some (bm d o ⟨s.only R,[],ct,[]⟩ v)=some k'->a_ P M B d up ρ a w s o k'.w Q∧k'.ct.i=ct.i:=by
  intro v ad hv he hk
  cases hk
  refine⟨oO h hw hn (v:=.pointer (some ad)) ?_ (by rw[<-he,<-hv];exact hr) (by rw[<-hv];exact hm) Q,by rw[ll]⟩
  unfold execOp
  rw[ho]
  show Sem.run P (match a.eval x with| .pointer none| .nilIface| .nilFunc=>runtimePanic .nilDeref| .func (.method name) first captured=>_|x=>pure (Next.value x)) w=_
  rw[he];rfl
 simp only[gb,ho]at hk
 split at hk
 ·rename_i bx off hv
  rw[hv]at hr
  exact key _ _ hv hr hk
 ·rename_i id q ix wd off hv
  rw[hv]at hr
  obtain⟨p,b,n,cap,i,_,_,_,_,he⟩:=hr
  exact key _ _ hv he hk
 ·rename_i s' ix wd off hv
  rw[hv]at hr
  obtain⟨xs,i,r,b,base,_,_,_,he,_⟩:=hr
  exact key _ _ hv he hk
 ·cases hk
theorem Py(h:Rel M B d up s ρ G a w)(hn:∀n,o.dst=some n->n<a.tmps.size){x:Operand}{i:Nat}(ho:o.op=.extract x i)
  (hk:gb cx bW dR d o oi ⟨s.only R,[],ct,[]⟩=some k'):a_ P M B d up ρ a w s o k'.w Q∧k'.ct.i=ct.i:=by
 have hw:=cC.start h R ct
 obtain⟨hr,hm⟩:=hw.fH x
 simp only[gb,ho]at hk
 split at hk
 ·rename_i vs hv
  rw[hv]at hr hm
  simp only[bQ,aJ]at hk
  obtain⟨u,hu,hk⟩:=hk
  have dN:bm d o ⟨s.only R,[],ct,[]⟩ (.v u.1 u.2)=k':=hk
  subst dN
  obtain⟨us,he,mW⟩:=hr
  have main:∀(vs:List (Bool×List Ce)) (us:List Value) (i:Nat) (u:Bool×List Ce),eL G w ρ vs us->vs[i]?=some u->
    ∃v,us[i]?=some v∧dU G w ρ u.1 u.2 v∧∀j∈cJ u.2,j∈oK vs:=by
   intro vs
   induction vs with
   |nil=>intro us i u _ hi;simp at hi
   |cons y vs ih=>
    intro us i u hr hi
    cases us with
    |nil=>exact hr.elim
    |cons z us=>
     cases i with
     |zero=>simp at hi;subst hi;exact⟨z,rfl,hr.1,λj hj=>by simp[oK,hj]⟩
     |succ i=>
      obtain⟨v,h1,h2,h3⟩:=ih us i u hr.2 (by simpa using hi)
      exact⟨v,by simpa using h1,h2,λj hj=>by simp[oK,h3 j hj]⟩
  obtain⟨v,h1,h2,h3⟩:=main vs us i u mW hu
  refine⟨oO h hw hn (v:=v) (x:=.v u.1 u.2) (wY (x:=Instr.extract (a.eval x) i) (by unfold execOp;rw[ho]) ?_) h2 (λj hj=>hm j (h3 j hj)) Q,by rw[ll]⟩
  rw[he]
  simp[Instr.extract,h1]
 ·cases hk
theorem Pz(cN:cW P cx)(h:Rel M B d up s ρ G a w)(hn:∀n,o.dst=some n->n<a.tmps.size){x:Operand}{t f:Nat}(ho:o.op=.fieldAddr t x f)
  (hk:gb cx bW dR d o oi ⟨s.only R,[],ct,[]⟩=some k'):a_ P M B d up ρ a w s o k'.w Q∧k'.ct.i=ct.i:=by
 have hw:=cC.start h R ct
 obtain⟨hr,hm⟩:=hw.fH x
 simp only[gb,ho,bQ,aJ]at hk
 obtain⟨v,hv,hk⟩:=hk
 have dN:bm d o ⟨s.only R,[],ct,[]⟩ v=k':=hk
 subst dN
 have run:∀(ti:TI) (of:Nat×Nat) (b oo:Nat),cx.ty t=some ti->ti.fs[f]?=some of->a.eval x=.pointer (some ⟨b,oo,none⟩)->
   (execOp a.eval o).run P w=.ok (.value (.pointer (some ⟨b,oo+of.1,none⟩))) w:=by
  intro ti of b oo ed hf he
  obtain⟨fs,uk,i,h1,h2,h3,h4,h5,_⟩:=(cN.ty _ _ ed).fs f of hf
  refine wY (x:=Instr.fieldAt t (a.eval x) f) (by unfold execOp;rw[ho]) ?_
  simp[Instr.fieldAt,run_underlying h1,h2,he,Instr.sureAddr,fieldPlace,sizeOf,typeInfo,h4,h5,h3,Addr.add_lit]
 unfold fieldAt at hv
 split at hv
 ·rename_i bx off dl
  rw[dl]at hr hm
  simp only[bQ,aJ]at hv
  obtain⟨ti,ed,of,hf,rfl⟩:=hv
  exact⟨oO h hw hn (x:=.pt bx (off+of.1)) (run ti of _ _ ed hf hr) rfl hm Q,by rw[ll]⟩
 ·rename_i id q ix wd off dl
  rw[dl]at hr hm
  simp only[bQ,aJ]at hv
  obtain⟨ti,ed,of,hf,rfl⟩:=hv
  obtain⟨p,b,n,cap,i,h1,h2,h3,h4,he⟩:=hr
  exact⟨oO h hw hn (x:=.ep id q ix wd (off+of.1)) (run ti of _ _ ed hf he) ⟨p,b,n,cap,i,h1,h2,h3,h4,by rw[Nat.add_assoc]⟩ hm Q,by rw[ll]⟩
 ·rename_i s' ix wd off dl
  rw[dl]at hr hm
  simp only[bQ,aJ]at hv
  obtain⟨ti,ed,of,hf,rfl⟩:=hv
  obtain⟨xs,i,r,b,base,h1,h2,h3,he,h5⟩:=hr
  exact⟨oO h hw hn (x:=.fp s' ix wd (off+of.1)) (run ti of _ _ ed hf he) ⟨xs,i,r,b,base,h1,h2,h3,by rw[Nat.add_assoc],h5⟩ hm Q,by rw[ll]⟩
 ·cases hv
theorem du.one{ω:Nat->Option Lb}{t:T}{v:Value}(h:du ω w t v):v.oneCell'=true:=by
 cases h with
 |c h=>cases v<;>simp_all[ib,Value.oneCell']
 |nil=>rfl
 |l=>rfl
theorem eF.one{e:Ce}{v:Value}(h:eF G w ρ e v):v.oneCell'=true:=by
 cases e with
 |p x=>obtain⟨t,_,h⟩:=h;exact h.one
 |o id q=>obtain⟨p,_,rfl⟩:=h;obtain⟨x,n,c,h⟩:=G.hs id p;rw[h];rfl
 |n=>cases h;rfl
 |d=>exact h
theorem PA{v:Value}(h:v.oneCell'=true):∀x,v≠.agg x:=λx e=>by subst e;cases h
theorem aF.length:∀{cs:List Ce} {vs:List Value},aF G w ρ cs vs->cs.length=vs.length
 | [],[],_=>rfl
 | [],_::_,h=>h.elim
 |_::_,[],h=>h.elim
 |_::cs,_::vs,h=>by simp[aF.length h.2]
theorem aF.drop:∀{cs:List Ce} {vs:List Value} (n:Nat),aF G w ρ cs vs->aF G w ρ (cs.drop n) (vs.drop n)
 |_,_,0,h=>h
 | [],[],n+1,_=>trivial
 | [],_::_,_,h=>h.elim
 |_::_,[],_,h=>h.elim
 |_::cs,_::vs,n+1,h=>aF.drop n h.2
theorem aF.take:∀{cs:List Ce} {vs:List Value} (n:Nat),aF G w ρ cs vs->aF G w ρ (cs.take n) (vs.take n)
 |_,_,0,h=>trivial
 | [],[],n+1,_=>trivial
 | [],_::_,_,h=>h.elim
 |_::_,[],_,h=>h.elim
 |_::cs,_::vs,n+1,h=>⟨h.1,aF.take n h.2⟩
theorem aF.one:∀{cs:List Ce} {vs:List Value},aF G w ρ cs vs->∀v∈vs,v.oneCell'=true
 | [],[],_,v,hv=>by cases hv
 | [],_::_,h,_,_=>h.elim
 |_::_,[],h,_,_=>h.elim
 |_::cs,_::vs,h,v,hv=>by
  cases hv with
  |head=>exact h.1.one
  |tail _ hv=>exact aF.one h.2 v hv
theorem Bw(cs:List Ce)(n:Nat):∀i∈cJ (cs.drop n),i∈cJ cs:=by
 induction cs generalizing n with
 |nil=>intro i hi;simp at hi;exact hi
 |cons c cs ih=>
  intro i hi
  cases n with
  |zero=>exact hi
  |succ n=>rw[s7];exact List.mem_append_right _ (ih n i (by simpa using hi))
theorem Bx(cs:List Ce)(n:Nat):∀i∈cJ (cs.take n),i∈cJ cs:=by
 induction cs generalizing n with
 |nil=>intro i hi;simp at hi;exact hi
 |cons c cs ih=>
  intro i hi
  cases n with
  |zero=>simp[cJ]at hi
  |succ n=>
   rw[List.take_succ_cons,s7]at hi
   rw[s7]
   rcases List.mem_append.1 hi with hi|hi
   ·exact List.mem_append_left _ hi
   ·exact List.mem_append_right _ (ih n i hi)
theorem G_{t:Nat}{ti:TI}(hT:pV P t ti){b off:Nat}{vs:List Value}(hl:vs.length=ti.sz)
  (hc:∀j v,vs[j]?=some v->w.cell? ⟨b,off+j,none⟩=some v):
  (Instr.loadAt t (.pointer (some ⟨b,off,none⟩))).run P w=.ok (if ti.ag then .agg vs.toArray else vs.getD 0 undef) w:=by
 obtain⟨i,z,hi,hs,_,_,_⟩:=hT.info
 obtain⟨u,hu,lQ,s_⟩:=hT.ag
 have oQ:(loadCells ⟨b,off,none⟩ vs.length).run P w=.ok vs.toArray w:=
  run_loadCells_list w _ vs λj v hj=>by rw[Addr.add_lit];exact hc j v hj
 cases hb:ti.ag with
 |true=>
  obtain⟨fs,rfl⟩:=lQ.1 hb
  simp[Instr.loadAt,Instr.sureAddr,loadVar,isAgg,run_underlying hu,sizeOf,typeInfo,hi,hs,<-hl,oQ]
 |false=>
  have h1:=hT.one hb
  obtain⟨v,rfl⟩:∃v,vs=[v]:=by
   cases vs with
   |nil=>simp at hl;omega
   |cons v vs=>cases vs with
    |nil=>exact⟨v,rfl⟩
    |cons _ _=>simp at hl;omega
  have Ac:=hc 0 v rfl
  have ye:(isAgg t).run P w=.ok false w:=by
   simp only[isAgg,Sem.run_bind,run_underlying hu,Result.andThen_ok]
   cases u with
   |struct fs=>have:=lQ.2 ⟨fs,rfl⟩;rw[hb]at this;cases this
   |array n e=>exact absurd rfl (s_ n e)
   |_=>rfl
  simp only[Nat.add_zero]at Ac
  simp[Instr.loadAt,Instr.sureAddr,loadVar,ye,Ac]
theorem Ha{ti:TI}{t:Nat}(hT:pV P t ti){G1:Gh}{cs:List Ce}{vs:List Value}(h:aF G1 w ρ cs vs)(hl:vs.length=ti.sz):
  bY G1 w ρ (.v ti.ag cs) (if ti.ag then .agg vs.toArray else vs.getD 0 undef):=by
 cases hb:ti.ag with
 |true=>exact⟨vs,rfl,h⟩
 |false=>
  have h1:=hT.one hb
  cases vs with
  |nil=>simp at hl;omega
  |cons v vs=>cases vs with
   |cons _ _=>simp at hl;omega
   |nil=>cases cs with
    |nil=>exact h.elim
    |cons c cs=>cases cs with
     |cons _ _=>exact h.2.elim
     |nil=>exact⟨c,rfl,h.1,PA h.1.one⟩
theorem Hb{x ix:Lf}{xs:List (List T)}{i:Nat}(hx:x.ej ρ=some (.l xs))(hi:jT ρ ix=some i):qW (x.ev ρ) (ix.ev ρ)=xs[i]?:=by
 obtain⟨k,hk⟩:=EU hi
 rw[Lf.aZ hx,hk,GX]
theorem Wk.ny:∀(n:Nat) (k:Wk) (sc:Bool) (x ix:Lf) (wd off:Nat),k.dE (k.row sc x ix wd off n).1
 |0,k,_,_,_,_,_=>.refl k
 |n+1,k,sc,x,ix,wd,off=>by
  simp only[Wk.row]
  exact(Wk.aS k _ _).trans (Wk.ny n _ sc x ix wd (off+1))
theorem Wk.oR:∀(n:Nat) (k:Wk) (sc:Bool) (x ix:Lf) (wd off:Nat),(k.row sc x ix wd off n).1.aP S ρ->k.aP S ρ
 |0,_,_,_,_,_,_,h=>h
 |n+1,k,sc,x,ix,wd,off,h=>by
  simp only[Wk.row]at h
  exact(Wk.be (Wk.oR n _ sc x ix wd (off+1) h)).1
theorem Bz{x ix:Lf}{xs:List (List T)}{i wd off:Nat}{sc:Bool}{t:T}(hx:x.ej ρ=some (.l xs))(hi:jT ρ ix=some i)
  (h:Prim.ev (bif sc then .bN wd off else .cell wd off) [x.ev ρ,ix.ev ρ]=some t):
  ∃r,xs[i]?=some r∧r.length=wd∧r[off]?=some t∧(sc=true->dr t=true):=by
 cases sc with
 |false=>
  simp only[cond_false,Prim.ev,Hb hx hi]at h
  cases hr:xs[i]? with
  |none=>simp[hr]at h
  |some r=>
   simp only[hr,Option.bind_some]at h
   split at h
   ·rename_i hl;exact⟨r,rfl,hl,h,λhf=>by cases hf⟩
   ·cases h
 |true=>
  simp only[cond_true,Prim.ev,Hb hx hi]at h
  cases hr:xs[i]? with
  |none=>simp[hr]at h
  |some r=>
   simp only[hr,Option.bind_some]at h
   split at h
   ·rename_i hl
    cases ho:r[off]? with
    |none=>simp[ho]at h
    |some t'=>
     simp only[ho,Option.bind_some]at h
     split at h
     ·rename_i hs;cases h;exact⟨r,rfl,hl,ho,λ_=>hs⟩
     ·cases h
   ·cases h
theorem Wk.se{G1:Gh}{x ix:Lf}{xs:List (List T)}{i wd:Nat}{sc:Bool}(hx:x.ej ρ=some (.l xs))(hi:jT ρ ix=some i){b base:Nat}
  (eV:∀r,xs[i]?=some r->r.length=wd->∀j t,r[j]?=some t->(sc=true->dr t=true)->∃u,w.cell? ⟨b,base+j,none⟩=some u∧du G1.q w t u):
  ∀(n:Nat) (k:Wk) (off:Nat),(k.row sc x ix wd off n).1.aP S ρ->
   ∃vs:List Value,vs.length=n∧(∀j v,vs[j]?=some v->w.cell? ⟨b,base+off+j,none⟩=some v)∧aF G1 w ρ (k.row sc x ix wd off n).2 vs∧cJ (k.row sc x ix wd off n).2=[]
 |0,k,off,_=>⟨[],rfl,λj v hj=>by simp at hj,trivial,rfl⟩
 |n+1,k,off,hd=>by
  simp only[Wk.row]at hd⊢
  obtain⟨_,t,ht,hy⟩:=Wk.be (Wk.oR n _ sc x ix wd (off+1) hd)
  obtain⟨r,h1,h2,h3,h4⟩:=Bz hx hi ht
  obtain⟨u,h5,h6⟩:=eV r h1 h2 off t h3 h4
  obtain⟨vs,g1,g2,g3,g4⟩:=Wk.se hx hi eV n _ (off+1) hd
  refine⟨u::vs,by simp[g1],λj v hj=>?_,⟨⟨t,hy,h6⟩,g3⟩,by simp[cJ,g4]⟩
  cases j with
  |zero=>simp at hj;subst hj;simpa using h5
  |succ j=>
   have:=g2 j v (by simpa using hj)
   rwa[show base+(off+1)+j=base+off+(j+1) by omega]at this
theorem Hc{ix:Lf}{wd off i:Nat}(hi:jT ρ ix=some i):∀{q:lh} {p:List (Nat×Nat)},eK ρ q=some p->eK ρ (q++[(ix,wd,off)])=some (p++[(i,off)])
 | [],p,h=>by simp only[eK]at h;cases h;simp[eK,hi]
 |(z1,z2,z3)::q,p,h=>by
  simp only[eK]at h
  cases jl:jT ρ z1 with
  |none=>simp[jl]at h
  |some i1=>
   cases lZ:eK ρ q with
   |none=>simp[jl,lZ]at h
   |some p2=>
    simp[jl,lZ]at h
    subst h
    simp[eK,jl,Hc hi lZ]
theorem dh.row{G1:Gh}{id:Nat}{dp:Bool}{p:List (Nat×Nat)}{xs:List (List T)}{b n cap i wd:Nat}{r:List T}(h:dh G1 w id dp p (.l xs))
  (hH:G1.H id p=.slice (some ⟨b,0,none⟩) n cap)(hr:xs[i]?=some r)(hl:r.length=wd)(j:Nat)(t:T)(ht:r[j]?=some t):
  ∃v,w.cell? ⟨b,i*wd+j,none⟩=some v∧(∀u,t=.c u->v=u∧ib u=true)∧(∀ys,t=.l ys->dp=false->du G1.q w t v)∧(∀ys,t=.l ys->dp=true->v=G1.H id (p++[(i,j)])):=by
 cases h with
 |nil h=>simp at hr
 | @l _ _ _ b' yf oS aX elem cv g1 g2 g3 g4 g5 g6 g7 g8 g9 pD vk=>
  rw[hH]at g1
  cases g1
  have hw:yf=wd:=by rw[<-hl,g6 r (List.mem_of_getElem? hr)]
  subst hw
  have aR:cI xs i j=some t:=by simp[cI,hr,ht]
  refine⟨cv i j,by rw[rf g4];exact g7 i j t aR,λu hu=>?_,λys hy hd=>?_,λys hy hd=>?_⟩
  ·subst hu;exact g8 i j u aR
  ·subst hy;exact g9 i j ys aR hd
  ·subst hy;exact pD i j ys aR hd
theorem BA{t:T}(h:dr t=true):∃v,t=.c v:=by
 cases t with
 |c v=>exact⟨v,rfl⟩
 |l _=>simp[dr]at h
theorem du.row{ω:Nat->Option Lb}{xs:List (List T)}{b o n cap i wd:Nat}{r:List T}(h:du ω w (.l xs) (.slice (some ⟨b,o,none⟩) n cap))
  (hr:xs[i]?=some r)(hl:r.length=wd):ω b=none∧b<w.heap.size∧∀(j:Nat) (t:T),r[j]?=some t->∃v,w.cell? ⟨b,o+i*wd+j,none⟩=some v∧du ω w t v:=by
 generalize hv:Value.slice (some (⟨b,o,none⟩:Addr)) n cap=v at h
 cases h with
 |nil=>simp at hr
 | @l _ b' PB yf oS cv h1 h2 h3 h4 h5 h6=>
  cases hv
  have hw:yf=wd:=by rw[<-hl,h1 r (List.mem_of_getElem? hr)]
  subst hw
  refine⟨h3,h4,λj t ht=>?_⟩
  have aR:cI xs i j=some t:=by simp[cI,hr,ht]
  exact⟨cv i j,by rw[Nat.add_assoc];exact h5 i j t aR,h6 i j t aR⟩
theorem Wk.jW:∀(zs:List Ce) (k:Wk) (y ix:Lf) (id:Nat) (q:lh) (wd off:Nat),k.dE (k.mS y ix id q wd off zs).1
 | [],k,_,_,_,_,_,_=>.refl k
 |z::zs,k,y,ix,id,q,wd,off=>by
  unfold Wk.mS
  cases dS z with
  |true=>exact(Wk.aS k _ _).trans (Wk.jW zs _ y ix id q wd (off+1))
  |false=>exact(Wk.aS k _ _).trans (Wk.jW zs _ y ix id q wd (off+1))
theorem Wk.jq:∀(zs:List Ce) (k:Wk) (y ix:Lf) (id:Nat) (q:lh) (wd off:Nat),(k.mS y ix id q wd off zs).1.aP S ρ->k.aP S ρ
 | [],_,_,_,_,_,_,_,h=>h
 |z::zs,k,y,ix,id,q,wd,off,h=>by
  unfold Wk.mS at h
  cases hz:dS z with
  |true=>rw[hz]at h;exact(Wk.be (Wk.jq zs _ y ix id q wd (off+1) h)).1
  |false=>rw[hz]at h;exact(Wk.be (Wk.jq zs _ y ix id q wd (off+1) h)).1
theorem Wk.nz{G1:Gh}{y ix:Lf}{xs:List (List T)}{i wd id b base:Nat}{q:lh}{p:List (Nat×Nat)}(hx:y.ej ρ=some (.l xs))(hi:jT ρ ix=some i)(hp:eK ρ q=some p)(rl:id%2=1)
  (eV:∀r,xs[i]?=some r->r.length=wd->∀j t,r[j]?=some t->∃u,w.cell? ⟨b,base+j,none⟩=some u∧(∀v,t=.c v->u=v∧ib v=true)∧∀ys,t=.l ys->u=G1.H id (p++[(i,j)])):
  ∀(zs:List Ce) (k:Wk) (off:Nat),(k.mS y ix id q wd off zs).1.aP S ρ->
   ∃vs:List Value,vs.length=zs.length∧(∀j v,vs[j]?=some v->w.cell? ⟨b,base+off+j,none⟩=some v)∧aF G1 w ρ (k.mS y ix id q wd off zs).2 vs∧∀j∈cJ (k.mS y ix id q wd off zs).2,j=id
 | [],k,off,_=>⟨[],rfl,λj v hj=>by simp at hj,trivial,λj hj=>by simp[Wk.mS,cJ]at hj⟩
 |z::zs,k,off,hd=>by
  unfold Wk.mS at hd⊢
  cases hz:dS z with
  |true=>
   rw[hz]at hd
   simp only[cond_true]at hd⊢
   obtain⟨_,t,ht,_⟩:=Wk.be (Wk.jq zs _ _ _ _ _ _ (off+1) hd)
   obtain⟨ys,rfl,aR,r,h1,h2⟩:=yc hx hi ht
   have h3:r[off]?=some (.l ys):=by simpa[cI,h1]using aR
   obtain⟨u,h5,_,h6⟩:=eV r h1 h2 off _ h3
   obtain⟨vs,g1,g2,g3,g4⟩:=Wk.nz hx hi hp rl eV zs _ (off+1) hd
   refine⟨u::vs,by simp[g1],λj v hj=>?_,⟨⟨_,O2 (Hc hi hp) rl,h6 ys rfl⟩,g3⟩,λj hj=>?_⟩
   ·cases j with
    |zero=>simp at hj;subst hj;simpa using h5
    |succ j=>
     have:=g2 j v (by simpa using hj)
     rwa[show base+(off+1)+j=base+off+(j+1) by omega]at this
   ·simp only[cJ,List.mem_cons]at hj
    rcases hj with hj|hj
    ·exact hj
    ·exact g4 j hj
  |false=>
   rw[hz]at hd
   simp only[cond_false]at hd⊢
   obtain⟨_,t,ht,hy⟩:=Wk.be (Wk.jq zs _ _ _ _ _ _ (off+1) hd)
   obtain⟨r,h1,h2,h3,h4⟩:=Bz (sc:=true) hx hi ht
   obtain⟨c,rfl⟩:=BA (h4 rfl)
   obtain⟨u,h5,h6,_⟩:=eV r h1 h2 off _ h3
   obtain⟨rfl,hs⟩:=h6 c rfl
   obtain⟨vs,g1,g2,g3,g4⟩:=Wk.nz hx hi hp rl eV zs _ (off+1) hd
   refine⟨u::vs,by simp[g1],λj v hj=>?_,⟨⟨.c u,hy,.c hs⟩,g3⟩,λj hj=>g4 j (by simpa[cJ]using hj)⟩
   cases j with
   |zero=>simp at hj;subst hj;simpa using h5
   |succ j=>
    have:=g2 j v (by simpa using hj)
    rwa[show base+(off+1)+j=base+off+(j+1) by omega]at this
theorem PC(cN:cW P cx)(h:Rel M B d up s ρ G a w)(hn:∀n,o.dst=some n->n<a.tmps.size){x:Operand}{t:Nat}(ho:o.op=.load t x)
  (hk:∃k1 v,loadAt cx (cx.nest bW) ⟨s.only R,[],ct,[]⟩ t (bz d (Wk.get ⟨s.only R,[],ct,[]⟩) x)=some (k1,v)∧bm d o k1 v=k')(hd:k'.aP S ρ):a_ P M B d up ρ a w s o k'.w Q∧k'.ct.i=ct.i:=by
 have hw:=cC.start h R ct
 obtain⟨hr,hm⟩:=hw.fH x
 obtain⟨k1,v,hv,hk⟩:=hk
 have dN:bm d o k1 v=k':=hk
 subst dN
 have eo:=b_.1 hd
 have exe:∀{val:Value} {b off:Nat},a.eval x=.pointer (some ⟨b,off,none⟩)->(Instr.loadAt t (.pointer (some ⟨b,off,none⟩))).run P w=.ok val w->(execOp a.eval o).run P w=.ok (.value val) w:=by
  intro val b off he hl
  refine wY (x:=Instr.loadAt t (a.eval x)) (by unfold execOp;rw[ho]) ?_
  rw[he];exact hl
 have ou:∀{k0:Wk} {G1:Gh} {ti:TI} {y ix:Lf} {xs:List (List T)} {i wd off b base:Nat} {sc:Bool},cx.ty t=some ti->cC M B d up ρ G a w k0 G1->k0.ct.i=ct.i->
   y.ej ρ=some (.l xs)->jT ρ ix=some i->a.eval x=.pointer (some ⟨b,base+off,none⟩)->
   (∀r,xs[i]?=some r->r.length=wd->∀j t,r[j]?=some t->(sc=true->dr t=true)->∃u,w.cell? ⟨b,base+j,none⟩=some u∧du G1.q w t u)->
   (k0.row sc y ix wd off ti.sz).1=k1->SV.v ti.ag (k0.row sc y ix wd off ti.sz).2=v->a_ P M B d up ρ a w s o (bm d o k1 v).w Q∧(bm d o k1 v).ct.i=ct.i:=by
  intro k0 G1 ti y ix xs i wd off b base sc ed qH iQ hy hi he eV h1 h2
  subst h1 h2
  obtain⟨vs,g1,g2,g3,g4⟩:=Wk.se (S:=S) hy hi eV ti.sz k0 off eo
  have hT:=cN.ty _ _ ed
  refine⟨oO h (qH.same (Wk.ny _ _ _ _ _ _ _)) hn (exe he (G_ hT g1 g2)) (Ha hT g3 g1) (λj hj=>by simp[cp,g4]at hj) Q,?_⟩
  rw[ll,(Wk.ny ti.sz k0 sc y ix wd off).i,iQ]
 unfold loadAt at hv
 split at hv
 ·rename_i bx off dl
  rw[dl]at hr hm
  simp only[bQ]at hv
  obtain⟨ti,ed,hv⟩:=hv
  split at hv
  ·rename_i ag cs qI
   cases hle:Nat.ble (off+ti.sz) cs.length with
   |false=>simp[hle]at hv
   |true=>
    simp only[hle,cond_true,aJ,Prod.mk.injEq]at hv
    obtain⟨rfl,rfl⟩:=hv
    have hb:=hw.rel.bx bx
    rw[<-Wk.aE,qI]at hb
    obtain⟨_,aX,elem,hh,iR⟩:=hb
    have hT:=cN.ty _ _ ed
    have PD:=(iR.drop off).take ti.sz
    have hlen:((aX.toList.drop off).take ti.sz).length=ti.sz:=by
     have:=iR.length
     have:=Nat.le_of_ble_eq_true hle
     simp only[List.length_take,List.length_drop]
     omega
    refine⟨oO h hw hn (exe hr (G_ hT hlen λj v hj=>?_)) (Ha hT PD hlen) (λj hj=>?_) Q,by rw[ll]⟩
    ·rw[rf hh]
     rw[List.getElem?_take]at hj
     split at hj
     ·rw[List.getElem?_drop]at hj;simpa using hj
     ·cases hj
    ·have wZ:=Bw cs off j (Bx _ _ j hj)
     refine hw.rel.eD (.x bx) j ?_
     rw[<-Wk.aE,qI];exact wZ
  ·cases hv
 ·rename_i s' ix wd off dl
  rw[dl]at hr
  simp only[bQ,aJ,Prod.mk.injEq]at hv
  obtain⟨ti,ed,h1,h2⟩:=hv
  obtain⟨xs,i,r,b,base,e1,e2,e3,e4,e5⟩:=hr
  refine ou ed hw rfl e1 e2 e4 (λr' gJ hl j t' ht _=>?_) h1 h2
  rw[e3]at gJ
  cases gJ
  exact(e5 hl).2.2 j t' ht
 ·rename_i id q ix wd off dl
  rw[dl]at hr
  simp only[bQ]at hv
  obtain⟨ti,ed,hv⟩:=hv
  obtain⟨p,b,n,cap,i,e1,e2,e3,e4,e5⟩:=hr
  have cS:=hw.obj id
  split at hv
  ·rename_i y hy
   rw[hy]at cS
   obtain⟨tt,ht,aT⟩:=cS
   have nA:∃ys,tt=.l ys:=by cases aT<;>exact⟨_,rfl⟩
   cases ov:(cx.nest bW&&ti.zero.any dS&&Nat.beq ti.zero.length ti.sz&&Nat.beq (id%2) 1)with
   |true=>
    simp only[ov,cond_true,aJ,Prod.mk.injEq]at hv
    obtain⟨h1,h2⟩:=hv
    subst h1 h2
    have rl:id%2=1:=by
     simp only[bB]at ov
     exact cK ov.2
    have oT:ti.zero.length=ti.sz:=by
     simp only[bB]at ov
     exact cK ov.1.2
    have BB:=Wk.jq _ _ _ _ _ _ _ _ eo
    obtain⟨z,hz,uo,PE⟩:=Wk.fh q _ y BB ht (xX e1) (.inr nA)
    have vl:∃ys,z=.l ys:=by
     rcases PE with rfl|h'
     ·simp only[ke]at e1;cases e1;simp[fG]at hz;subst hz;exact nA
     ·exact h'
    obtain⟨zs,rfl⟩:=vl
    have jr:=dh.jj p aT hz ⟨zs,rfl⟩
    simp only[List.nil_append]at jr
    obtain⟨vs,g1,g2,g3,g4⟩:=Wk.nz (S:=S) (b:=b) (base:=i*wd) (wd:=wd) uo e3 (xX e1) rl (λr gJ hl j t' hY=>by
     obtain⟨v',hc,ha,_,hb⟩:=jr.row e2 gJ hl j t' hY
     exact⟨v',hc,ha,λys hy=>hb ys hy rfl⟩) ti.zero _ off eo
    have hT:=cN.ty _ _ ed
    refine⟨oO h ((hw.same (Wk.dD q _ y)).same (Wk.jW _ _ _ _ _ _ _ _)) hn (exe e5 (G_ hT (by rw[g1,oT]) g2)) (Ha hT g3 (by rw[g1,oT])) (λj hj=>?_) Q,?_⟩
    ·have:=g4 j (by simpa[cp]using hj)
     subst this
     rw[dl]at hm
     exact hm j (by simp[cp])
    ·rw[ll,(Wk.jW _ _ _ _ _ _ _ _).i,(Wk.dD q _ y).i]
   |false=>
    simp only[ov,cond_false]at hv
    cases hz:ti.zero.any dS with
    |true=>
     simp only[hz,cond_true]at hv
     split at hv
     ·cases lA:Nat.beq (id%2) 0 with
      |true=>
       simp only[lA,cond_true,aJ,Prod.mk.injEq]at hv
       obtain⟨h1,h2⟩:=hv
       have PF:=cK lA
       simp only[ke]at e1
       cases e1
       obtain⟨ys,rfl⟩:=nA
       refine ou ed hw rfl ht e3 e5 (λr gJ hl j t' hY _=>?_) h1 h2
       obtain⟨v',hc,ha,_,hb⟩:=aT.row e2 gJ hl j t' hY
       refine⟨v',hc,?_⟩
       cases t' with
       |c u=>obtain⟨rfl,hs⟩:=ha u rfl;exact .c hs
       |l zs=>
        rw[hb zs rfl rfl]
        have aR:cI ys i j=some (.l zs):=by simp[cI,gJ,hY]
        have jr:=dh.jj [(i,j)] aT (by simp[fG,aR]) ⟨zs,rfl⟩
        exact jr.GZ (.inr ⟨PF,by simp⟩) rfl
      |false=>
      simp only[lA,cond_false]at hv
      simp only[bQ,aJ,Prod.mk.injEq]at hv
      obtain⟨k2,dN,h1,h2⟩:=hv
      obtain⟨G2,hw2,xZ,hH,pE,mX,his⟩:=hw.flat dN
      simp only[ke]at e1
      cases e1
      have He:=hw2.obj id
      have Hf:k2.get (.o id)=.ob false y:=by
       unfold Wk.flat at dN
       rw[hy]at dN
       cases dN
       simp[Wk.get,Wk.set,St.aK]
      rw[Hf]at He
      obtain⟨tt2,Hg,nB⟩:=He
      obtain⟨ys,rfl⟩:∃ys,tt2=.l ys:=by cases nB<;>exact⟨_,rfl⟩
      refine ou ed hw2 (by rw[mX]) Hg e3 e5 (λr gJ hl j t' hY _=>?_) h1 h2
      obtain⟨v',hc,ha,hb,_⟩:=nB.row (by rw[hH];exact e2) gJ hl j t' hY
      refine⟨v',hc,?_⟩
      cases t' with
      |c u=>obtain⟨rfl,hs⟩:=ha u rfl;exact .c hs
      |l zs=>exact hb zs rfl rfl
     ·cases hv
    |false=>
     simp only[hz,cond_false,aJ,Prod.mk.injEq]at hv
     obtain⟨h1,h2⟩:=hv
     subst h1 h2
     have BB:=Wk.oR _ _ _ _ _ _ _ eo
     obtain⟨z,oP,uo,oT⟩:=Wk.fh q _ y BB ht (xX e1) (.inr nA)
     have vl:∃ys,z=.l ys:=by
      rcases oT with rfl|h'
      ·simp only[ke]at e1;cases e1;simp[fG]at oP;subst oP;exact nA
      ·exact h'
     obtain⟨zs,rfl⟩:=vl
     have jr:=dh.jj p aT oP ⟨zs,rfl⟩
     simp only[List.nil_append]at jr
     refine ou ed (hw.same (Wk.dD q _ y)) (by rw[(Wk.dD q _ y).i]) uo e3 e5 (λr gJ hl j t' hY kh=>?_) rfl rfl
     obtain⟨v',hc,ha,_,_⟩:=jr.row e2 gJ hl j t' hY
     obtain⟨u,rfl⟩:=BA (kh rfl)
     obtain⟨rfl,hs⟩:=ha u rfl
     exact⟨_,hc,.c hs⟩
  ·rename_i y hy
   rw[hy]at cS
   split at hv
   ·simp only[aJ,Prod.mk.injEq]at hv
    obtain⟨h1,h2⟩:=hv
    obtain⟨tt,ht,aT⟩:=cS
    obtain⟨ys,rfl⟩:∃ys,tt=.l ys:=by cases aT<;>exact⟨_,rfl⟩
    simp only[ke]at e1
    cases e1
    refine ou ed hw rfl ht e3 e5 (λr gJ hl j t' hY _=>?_) h1 h2
    obtain⟨v',hc,ha,hb,_⟩:=aT.row e2 gJ hl j t' hY
    refine⟨v',hc,?_⟩
    cases t' with
    |c u=>obtain⟨rfl,hs⟩:=ha u rfl;exact .c hs
    |l zs=>exact hb zs rfl rfl
   ·cases hv
  ·rename_i y hy
   rw[hy]at cS
   split at hv
   ·simp only[aJ,Prod.mk.injEq]at hv
    obtain⟨h1,h2⟩:=hv
    obtain⟨tt,ht,cT,_⟩:=cS
    simp only[ke]at e1
    cases e1
    rw[e2]at cT
    obtain⟨ys,rfl⟩:∃ys,tt=.l ys:=by
     cases tt with
     |c v=>have:=cT.scalar;cases this.1▸this.2
     |l ys=>exact⟨ys,rfl⟩
    refine ou (b:=b) (base:=i*wd) ed hw rfl ht e3 e5 (λr gJ hl j t' hY _=>?_) h1 h2
    obtain⟨v',hc,mN⟩:=(cT.row gJ hl).2.2 j t' hY
    exact⟨v',by simpa using hc,mN⟩
   ·cases hv
  ·cases hv
 ·cases hv
theorem PG{x i:T}{r:T}(h:Prim.ev .ia [x,i]=some r):∃xs kk n,x=.l xs∧i=.c (.int kk n)∧0<=n∧∃row,xs[n.toNat]?=some row:=by
 simp only[Prim.ev,qW,bQ]at h
 obtain⟨row,⟨xs,hx,n,hn,hr⟩,_⟩:=h
 cases x with
 |c v=>simp[T.rows]at hx
 |l ys=>
  simp only[T.rows,aJ]at hx
  subst hx
  cases i with
  |l _=>simp[T.int]at hn
  |c v=>
   cases v with
   |int kk m=>
    simp only[T.int,aJ]at hn
    subst hn
    split at hr
    ·rename_i h0;exact⟨ys,kk,m,rfl,rfl,h0,row,hr⟩
    ·cases hr
   |_=>simp[T.int]at hn
theorem Hh{x:Lf}{kk:IntKind}{n:Int}(h:x.ej ρ=some (.c (.int kk n)))(h0:0<=n):jT ρ x=some n.toNat:=by
 simp[jT,h,h0]
theorem PH{t:Nat}{ti te:TI}(hT:pV P t ti)(hE:pV P ti.el te)(hk:ti.kd=3){b off len cap:Nat}{kk:IntKind}{n:Int}(h0:0<=n)(hn:n<len):
  (Instr.indexAt t (.slice (some ⟨b,off,none⟩) len cap) (.int kk n)).run P w=.ok (.pointer (some ⟨b,off+n.toNat*te.sz,none⟩)) w:=by
 have hu:=hT.sl hk
 obtain⟨i,z,hi,hs,_,_,_⟩:=hE.info
 simp[Instr.indexAt,asIntOf,run_underlying hu,h0,hn,sizeOf,typeInfo,hi,hs,Addr.add_lit]
theorem BC{lo:Lf}{n:Nat}(h:z5 lo=true)(h2:jT ρ lo=some n):n=0:=by
 unfold z5 at h
 split at h
 ·rename_i k m
  have hm:m=0:=of_decide_eq_true h
  subst hm
  simp[jT,Lf.ej,ib]at h2
  exact h2.symm
 ·cases h
theorem PI(cN:cW P cx)(h:Rel M B d up s ρ G a w)(hn:∀n,o.dst=some n->n<a.tmps.size){x y:Operand}{t:Nat}(ho:o.op=.indexAddr t x y)
  (hk:gb cx bW dR d o oi ⟨s.only R,[],ct,[]⟩=some k')(hd:k'.aP S ρ):a_ P M B d up ρ a w s o k'.w Q∧k'.ct.i=ct.i:=by
 have hw:=cC.start h R ct
 obtain⟨hr,hm⟩:=hw.fH x
 have Bu:=(hw.fH y).1
 simp only[gb,ho,indexAt,bQ,aJ]at hk
 obtain⟨⟨k1,v⟩,⟨ti,ed,te,mM,hv⟩,hk⟩:=hk
 have dN:bm d o k1 v=k':=hk
 subst dN
 have eo:=b_.1 hd
 have hT:=cN.ty _ _ ed
 have hE:=cN.ty _ _ mM
 cases oU:Nat.beq ti.kd 3 with
 |false=>simp[oU]at hv
 |true=>
  have mV:=cK oU
  simp only[oU,cond_true,bQ]at hv
  obtain⟨⟨k2,ix⟩,h1,hv⟩:=hv
  have exe:∀{b off len cap:Nat} {kk:IntKind} {n:Int},a.eval x=.slice (some ⟨b,off,none⟩) len cap->a.eval y=.int kk n->0<=n->n<len->
    (execOp a.eval o).run P w=.ok (.value (.pointer (some ⟨b,off+n.toNat*te.sz,none⟩))) w:=by
   intro b off len cap kk n e1 e2 h0 bH
   refine wY (x:=Instr.indexAt t (a.eval x) (a.eval y)) (by unfold execOp;rw[ho]) ?_
   rw[e1,e2];exact PH hT hE mV h0 bH
  have jl:Wk.dE ⟨s.only R,[],ct,[]⟩ k2:=by
   unfold Wk.one at h1;split at h1
   ·exact Wk.cR h1
   ·cases h1
  have PJ:∀{k3:Wk} {z:Lf},(k3.em .ia [z,ix]).1.aP S ρ->(k3.aP S ρ->k2.aP S ρ)->∃xs kk n row,k3.aP S ρ∧z.ev ρ=.l xs∧a.eval y=.int kk n∧0<=n∧xs[n.toNat]?=some row∧jT ρ ix=some n.toNat:=by
   intro k3 z uq BD
   obtain⟨Ad,r,nY,_⟩:=Wk.be uq
   obtain⟨_,_,t1,ht1,kg⟩:=Wk.eM hw h1 (BD Ad) Bu
   simp only[List.map_cons,List.map_nil,Lf.aZ ht1]at nY
   obtain⟨xs,kk,n,hx,hi,h0,row,eV⟩:=PG nY
   subst hi
   obtain⟨e,_⟩:=kg.scalar
   exact⟨xs,kk,n,row,Ad,hx,e,h0,eV,Hh ht1 h0⟩
  have vm:∀{xs:List (List T)} {n:Int} {row:List T},0<=n->xs[n.toNat]?=some row->n<xs.length:=by
   intro xs n row h0 eV
   have:=(List.getElem?_eq_some_iff.1 eV).1
   omega
  have plain:∀{z:Lf} {tt:T} {val:Value} {k3:Wk} ,k3=k2->z.ej ρ=some tt->du G.q w tt val->a.eval x=val->k1=(k3.em .ia [z,ix]).1->v=.fp z ix te.sz 0->
    a_ P M B d up ρ a w s o (bm d o k1 v).w Q∧(bm d o k1 v).ct.i=ct.i:=by
   intro z tt val k3 oU hz cT fB e1 e2
   subst oU e1 e2
   obtain⟨xs,kk,n,row,_,hx,he,h0,eV,cU⟩:=PJ eo id
   rw[Lf.aZ hz]at hx
   subst hx
   have bH:=vm h0 eV
   obtain⟨ad,cap,pF,_⟩:=cT.rows
   subst pF
   cases cT with
   |nil=>simp at bH;omega
   | @l _ b off yf oS cv g1 g2 g3 g4 g5 g6=>
    refine⟨oO h ((hw.same jl).same (Wk.aS _ _ _)) hn (x:=.fp z ix te.sz 0) (exe fB he h0 bH) ?_ (λi hi=>by simp[cp]at hi) Q,?_⟩
    ·refine⟨xs,n.toNat,row,b,off+n.toNat*te.sz,hz,cU,eV,rfl,λhl=>?_⟩
     exact(du.l g1 g2 g3 g4 g5 g6).row eV hl
    ·rw[ll,(Wk.aS _ _ _).i,jl.i]
  have owned:∀{id:Nat} {q:lh} {p:List (Nat×Nat)} {z:Lf} {zs:List (List T)} {dp:Bool} {k3:Wk},k2.dE k3->(k3.aP S ρ->k2.aP S ρ)->iY ρ id q=some p->
    z.ej ρ=some (.l zs)->dh G w id dp p (.l zs)->a.eval x=G.H id p->M id->k1=(k3.em .ia [z,ix]).1->v=.ep id q ix te.sz 0->
    a_ P M B d up ρ a w s o (bm d o k1 v).w Q∧(bm d o k1 v).ct.i=ct.i:=by
   intro id q p z zs dp k3 hsm BD hp hz aT fB hM e1 e2
   subst e1 e2
   obtain⟨xs,kk,n,row,_,hx,he,h0,eV,cU⟩:=PJ eo BD
   rw[Lf.aZ hz]at hx
   cases hx
   have bH:=vm h0 eV
   cases aT with
   |nil hH=>simp at bH;omega
   | @l _ _ _ b yf oS aX elem cv g1 g2 g3 g4 g5 g6 g7 g8 g9 pD vk=>
    refine⟨oO h ((((hw.same jl).same hsm)).same (Wk.aS _ _ _)) hn (x:=.ep id q ix te.sz 0) (exe (by rw[fB,g1]) he h0 bH) ?_ (λi hi=>by simp[cp]at hi;rw[hi];exact hM) Q,?_⟩
    ·exact⟨p,b,_,_,n.toNat,hp,g1,cU,by omega,by simp⟩
    ·rw[ll,(Wk.aS _ _ _).i,hsm.i,jl.i]
  split at hv
  ·rename_i z dl
   rw[dl]at hr
   obtain⟨e,he,m_,_⟩:=hr
   cases he
   obtain⟨tt,hz,cT⟩:=m_
   simp only[aJ,Prod.mk.injEq]at hv
   exact plain rfl hz cT rfl hv.1.symm hv.2.symm
  ·rename_i id q dl
   rw[dl]at hr hm
   obtain⟨e,he,m_,_⟩:=hr
   cases he
   obtain⟨p,hp,fB⟩:=m_
   have hM:M id:=hm id (by simp[cp,cJ])
   have cS:=(hw.same jl).obj id
   split at hv
   ·rename_i q' z hz
    rw[hz]at cS
    obtain⟨tt,ht,aT⟩:=cS
    have nA:∃ys,tt=.l ys:=by cases aT<;>exact⟨_,rfl⟩
    simp only[aJ,Prod.mk.injEq]at hv
    obtain⟨e1,e2⟩:=hv
    subst e1
    have BB:=(Wk.be eo).1
    obtain⟨u,hu,uo,oT⟩:=Wk.fh _ _ z BB ht (xX hp) (.inr nA)
    have vl:∃ys,u=.l ys:=by
     rcases oT with hq0|h'
     ·have hp:=xX hp;rw[hq0]at hp;simp only[eK]at hp;cases hp;simp[fG]at hu;subst hu;exact nA
     ·exact h'
    obtain⟨zs,rfl⟩:=vl
    have jr:=dh.jj p aT hu ⟨zs,rfl⟩
    simp only[List.nil_append]at jr
    exact owned (Wk.dD _ _ z) (Wk.jo _ _ _) hp uo jr fB hM rfl e2.symm
   ·rename_i z hz
    rw[hz]at cS
    obtain⟨tt,ht,aT⟩:=cS
    obtain⟨ys,rfl⟩:∃ys,tt=.l ys:=by cases aT<;>exact⟨_,rfl⟩
    simp only[aJ,Prod.mk.injEq]at hv
    simp only[ke]at hp
    cases hp
    exact owned (.refl _) (λh=>h) rfl ht aT fB hM hv.1.symm hv.2.symm
   ·rename_i tk x0 lo z hz
    rw[hz]at cS
    obtain⟨tt,ht,cT,_,F,n0,zs,_,l7,rfl,_,pW,yg⟩:=cS
    simp only[ke]at hp
    cases hp
    cases oT:z5 lo with
    |false=>
     simp only[oT,cond_false,aJ,Prod.mk.injEq]at hv
     exact plain rfl ht cT fB hv.1.symm hv.2.symm
    |true=>
     simp only[oT,cond_true,aJ,Prod.mk.injEq]at hv
     have ta:n0=0:=BC oT l7
     obtain⟨e1,e2⟩:=hv
     subst e1 e2
     obtain⟨xs,kk,n,row,_,hx,he,h0,eV,cU⟩:=PJ eo (λh=>h)
     rw[Lf.aZ ht]at hx
     cases hx
     have bH:=vm h0 eV
     obtain⟨ad,cap,pF,_⟩:=cT.rows
     rw[pF]at cT
     generalize pB:Value.slice ad zs.length cap=vv at cT
     cases cT with
     |nil=>simp at bH;omega
     | @l _ b off yf oS cv g1 g2 g3 g4 g5 g6=>
      cases pB
      have vn:=yg ta b off _ _ pF
      subst vn
      refine⟨oO h ((hw.same jl).same (Wk.aS _ _ _)) hn (x:=.ep id [] ix te.sz 0) (exe (by rw[fB,pF]) he h0 bH) ?_ (λi hi=>by simp[cp]at hi;rw[hi];exact hM) Q,?_⟩
      ·exact⟨[],b,_,_,n.toNat,rfl,pF,cU,by omega,by simp⟩
      ·rw[ll,(Wk.aS _ _ _).i,jl.i]
   ·rename_i pv z _ hz
    rw[hz]at cS
    obtain⟨tt,ht,cT,_⟩:=cS
    simp only[aJ,Prod.mk.injEq]at hv
    simp only[ke]at hp
    cases hp
    exact plain rfl ht cT fB hv.1.symm hv.2.symm
   ·cases hv
  ·cases hv
theorem aF.append:∀{cs es:List Ce} {vs us:List Value},aF G w ρ cs vs->aF G w ρ es us->aF G w ρ (cs++es) (vs++us)
 | [],_,[],_,_,h=>h
 | [],_,_::_,_,h,_=>h.elim
 |_::_,_,[],_,h,_=>h.elim
 |_::cs,_,_::vs,_,h,h'=>⟨h.1,aF.append h.2 h'⟩
theorem aF.eI{cs es:List Ce}{vs us:List Value}(off:Nat)(h:aF G w ρ cs vs)(h':aF G w ρ es us):
  aF G w ρ (eI cs off es) (vs.take off++us++vs.drop (off+us.length)):=by
 unfold Go.Proofs.YtbhplkilhknciaaC.eI
 rw[<-h'.length]
 exact((h.take off).append h').append (h.drop _)
theorem BE(cs es:List Ce):cJ (cs++es)=cJ cs++cJ es:=by
 induction cs with
 |nil=>rfl
 |cons c cs ih=>rw[List.cons_append,s7,s7 c cs,ih,List.append_assoc]
theorem Hi(cs es:List Ce)(off:Nat):∀i∈cJ (eI cs off es),i∈cJ cs∨i∈cJ es:=by
 intro i hi
 unfold eI at hi
 rw[BE,BE]at hi
 simp only[List.mem_append]at hi
 rcases hi with(hi|hi)|hi
 ·exact .inl (Bx _ _ i hi)
 ·exact .inr hi
 ·exact .inl (Bw _ _ i hi)
def tb:List Value->Nat->Array Value->Array Value
 | [],_,c=>c
 |v::vs,off,c=>tb vs (off+1) (c.setIfInBounds off v)
theorem Hj(off:Nat):∀(vs:List Value) (j:Nat) (c:Array Value),
  (vs.zipIdx j).foldl (λcs p=>cs.setIfInBounds (off+p.2) p.1) c=tb vs (off+j) c
 | [],_,_=>rfl
 |v::vs,j,c=>by
  simp only[List.zipIdx_cons,List.foldl_cons,tb]
  rw[Hj off vs (j+1),Nat.add_assoc]
theorem BF:∀(vs:List Value) (off:Nat) (c:Array Value),(tb vs off c).size=c.size
 | [],_,_=>rfl
 |v::vs,off,c=>by simp[tb,BF vs]
theorem EY:∀(vs:List Value) (off:Nat) (c:Array Value) (i:Nat),off+vs.length<=c.size->
  (tb vs off c)[i]?=if off<=i∧i<off+vs.length then vs[i-off]? else c[i]?
 | [],off,c,i,_=>by
  simp only[tb,List.length_nil]
  rw[if_neg (by omega)]
 |v::vs,off,c,i,h=>by
  simp only[List.length_cons]at h
  simp only[tb]
  rw[EY vs (off+1) _ i (by simp;omega)]
  by_cases h1:i=off
  ·subst h1
   rw[if_neg (by omega),if_pos (by simp)]
   simp[show i<c.size by omega]
  ·by_cases h2:off+1<=i∧i<off+1+vs.length
   ·rw[if_pos h2,if_pos (by simp;omega)]
    rw[show i-off=(i-(off+1))+1 by omega]
    simp
   ·rw[if_neg h2,if_neg (by simp;omega)]
    rw[Array.getElem?_setIfInBounds_ne (by omega)]
theorem Nu(vs:List Value)(off:Nat)(c:Array Value)(h:off+vs.length<=c.size):
  (tb vs off c).toList=c.toList.take off++vs++c.toList.drop (off+vs.length):=by
 apply List.ext_getElem?
 intro i
 rw[Array.getElem?_toList,EY vs off c i h]
 have hl:(c.toList.take off).length=off:=by simp;omega
 by_cases h1:i<off
 ·rw[if_neg (by omega),List.append_assoc,List.getElem?_append_left (by omega),List.getElem?_take,if_pos h1,Array.getElem?_toList]
 ·rw[List.append_assoc,List.getElem?_append_right (by omega),hl]
  by_cases h2:i<off+vs.length
  ·rw[if_pos ⟨by omega,h2⟩,List.getElem?_append_left (by omega)]
  ·rw[if_neg (by omega),List.getElem?_append_right (by omega),List.getElem?_drop,Array.getElem?_toList]
   congr 1
   omega
theorem Hk{ag:Bool}{cs:List Ce}{v:Value}(h:dU G w ρ ag cs v):aF G w ρ cs v.cells.toList:=by
 cases ag with
 |true=>obtain⟨vs,rfl,h⟩:=h;exact h
 |false=>
  obtain⟨e,rfl,h,hn⟩:=h
  have:v.cells=#[v]:=by
   cases v<;>first|rfl|exact absurd rfl (hn _)
  rw[this]
  exact⟨h,trivial⟩
theorem Ae:∀{cs:List Ce} {vs:List Value},vh cs vs->aF G w ρ cs vs∧cJ cs=[]
 | [],[],_=>⟨trivial,rfl⟩
 | [],_::_,h=>h.elim
 | .p (.k v)::cs,v'::vs,h=>by
  obtain⟨rfl,hs,h⟩:=h
  obtain⟨h1,h2⟩:=Ae h
  exact⟨⟨⟨.c v,by simp[Lf.ej,hs],.c hs⟩,h1⟩,by simp[cJ,h2]⟩
 | .n::cs,v::vs,h=>by
  obtain⟨rfl,h⟩:=h
  obtain⟨h1,h2⟩:=Ae h
  exact⟨⟨rfl,h1⟩,by simp[cJ,h2]⟩
 | .p (.k _)::_,[],h=>h.elim
 | .n::_,[],h=>h.elim
 | .p (.a _)::_,[],h=>h.elim
 | .p (.a _)::_,_::_,h=>h.elim
 | .p .e::_,[],h=>h.elim
 | .p .e::_,_::_,h=>h.elim
 | .o _ _::_,[],h=>h.elim
 | .o _ _::_,_::_,h=>h.elim
 | .d::_,[],h=>h.elim
 | .d::_,_::_,h=>h.elim
theorem BG{G1:Gh}{k:Wk}(hw:cC M B d up ρ G a w k G1){fs:List (Nat×Nat)}{place:Nat->Option (Nat×Nat)}(pX:∀f o,fs[f]?=some o->place f=some o):
  ∀(ps:List (Nat×Operand)) (l:List (Nat×List Ce)) (zs cs:List Ce) (aX:Array Value),parts d k.get fs ps=some l->sS zs l=some cs->aF G1 w ρ zs aX.toList->
   (∀i∈cJ zs,M i)->∃gg,Instr.fill place aX (ps.map λp=>(p.1,a.eval p.2))=some gg∧aF G1 w ρ cs gg.toList∧(∀i∈cJ cs,M i)∧gg.size=aX.size
 | [],l,zs,cs,aX,hp,hc,hz,hi=>by
  simp only[parts,aJ]at hp
  subst hp
  simp only[sS,aJ]at hc
  subst hc
  exact⟨aX,rfl,hz,hi,rfl⟩
 |(f,x)::ps,l,zs,cs,aX,hp,hc,hz,hi=>by
  simp only[parts,bQ]at hp
  obtain⟨of,hf,es,pG,hp⟩:=hp
  cases hle:Nat.beq es.length of.2 with
  |false=>simp[hle]at hp
  |true=>
   simp only[hle,cond_true,bQ,aJ]at hp
   obtain⟨l',lk,rfl⟩:=hp
   simp only[sS]at hc
   cases hb:Nat.ble (of.1+es.length) zs.length with
   |false=>simp[hb]at hc
   |true=>
    simp only[hb,cond_true]at hc
    obtain⟨hr,hm⟩:=hw.fH x
    unfold cellsOf at pG
    split at pG
    ·rename_i ag es' dl
     cases pG
     rw[dl]at hr hm
     have iR:=Hk hr
     have hlen:=iR.length
     have oT:=hz.length
     have h1:=cK hle
     have h2:=Nat.le_of_ble_eq_true hb
     simp only[Array.length_toList]at hlen oT
     have jt:of.1+(a.eval x).cells.toList.length<=aX.size:=by simp only[Array.length_toList];omega
     have tc:(((a.eval x).cells.zipIdx.foldl (λcs (c,j)=>cs.setIfInBounds (of.1+j) c) aX))=tb (a.eval x).cells.toList of.1 aX:=by
      rw[<-Array.foldl_toList,Array.toList_zipIdx]
      exact Hj of.1 _ 0 aX
     have oP:=aF.eI of.1 hz iR
     rw[<-Nu _ _ _ jt]at oP
     obtain⟨gg,g1,g2,g3,g4⟩:=BG hw pX ps l' _ cs (tb (a.eval x).cells.toList of.1 aX) lk hc oP λi bR=>by
      rcases Hi _ _ _ i bR with h|h
      ·exact hi i h
      ·exact hm i h
     refine⟨gg,?_,g2,g3,by rw[g4,BF]⟩
     simp only[List.map_cons,Instr.fill,pX f of hf]
     rw[if_neg]
     ·rw[tc];exact g1
     ·simp only[Array.length_toList]at jt
      simp only[Bool.or_eq_true,decide_eq_true_eq]
      omega
    ·cases pG
theorem Hl:∀(l:List Field),(∀f∈l,∃i,P.info? f.type=some i)->
  (l.mapM λf=>(do pure (f.offset,<-sizeOf f.type):Sem (Nat×Nat))).run P w=.ok (l.map λf=>(f.offset,((P.info? f.type).map (·.size)).getD 0)) w
 | [],_=>rfl
 |f::l,h=>by
  obtain⟨i,hi⟩:=h f (by simp)
  have ih:=Hl l λg hg=>h g (by simp[hg])
  have h1:(do pure (f.offset,<-sizeOf f.type):Sem (Nat×Nat)).run P w=.ok (f.offset,i.size) w:=by
   simp[sizeOf,typeInfo,hi]
  rw[List.mapM_cons,Sem.run_bind,h1]
  simp only[Result.andThen_ok,Sem.run_bind,ih,Sem.run_pure,List.map_cons,hi,Option.map_some,Option.getD_some]
theorem PK(cN:cW P cx)(h:Rel M B d up s ρ G a w)(hn:∀n,o.dst=some n->n<a.tmps.size){t:Nat}{ps:Array (Nat×Operand)}(ho:o.op=.build t ps)
  (hk:gb cx bW dR d o oi ⟨s.only R,[],ct,[]⟩=some k'):a_ P M B d up ρ a w s o k'.w Q∧k'.ct.i=ct.i:=by
 have hw:=cC.start h R ct
 simp only[gb,ho,bQ]at hk
 obtain⟨ti,ed,hk⟩:=hk
 cases BH:ti.ag with
 |false=>simp[BH]at hk
 |true=>
 simp only[BH,cond_true,bQ,aJ]at hk
 obtain⟨l,hl,cs,iR,hk⟩:=hk
 have dN:bm d o ⟨s.only R,[],ct,[]⟩ (.v true cs)=k':=hk
 subst dN
 have hT:=cN.ty _ _ ed
 obtain⟨i,z,hi,hs,_,hz,ri⟩:=hT.info
 obtain⟨u,hu,lQ,_⟩:=hT.ag
 obtain⟨yh,oP⟩:=Ae (G:=G) (w:=w) (ρ:=ρ) ri
 obtain⟨fs,rfl⟩:=lQ.1 BH
 have hlen:=hT.fl fs hu
 have vo:∀f∈fs.toList,∃i,P.info? f.type=some i:=by
  intro f hf
  obtain⟨n,Nv⟩:=List.getElem?_of_mem hf
  have bH:n<ti.fs.length:=by rw[<-hlen,<-Array.length_toList];exact(List.getElem?_eq_some_iff.1 Nv).1
  obtain⟨gx,uk,i',e1,e2,_,e4,_⟩:=hT.fs n ti.fs[n] (List.getElem?_eq_getElem bH)
  rw[hu]at e1
  cases e1
  rw[<-Array.getElem?_toList,Nv]at e2
  cases e2
  exact⟨i',e4⟩
 have pX:∀(f:Nat) (o:Nat×Nat),ti.fs[f]?=some o->((fs.toList.map λf=>(f.offset,((P.info? f.type).map (·.size)).getD 0)).toArray)[f]?=some o:=by
  intro f o hf
  obtain⟨gx,uk,i',e1,e2,e3,e4,_,e6⟩:=hT.fs f o hf
  rw[hu]at e1
  cases e1
  simp only[List.getElem?_toArray,List.getElem?_map,Array.getElem?_toList,e2,Option.map_some,e4,Option.getD_some,e3,e6]
 obtain⟨gg,g1,g2,g3,g4⟩:=BG (a:=a) hw (place:=λf=>((fs.toList.map λf=>(f.offset,((P.info? f.type).map (·.size)).getD 0)).toArray)[f]?) pX ps.toList l ti.zero cs z.cells hl iR yh (λi hi=>by rw[oP]at hi;cases hi)
 refine⟨oO h hw hn (x:=.v true cs) (v:=.agg gg) (wY (x:=Instr.build t (ps.map λ(i,x)=>(i,a.eval x))) (by unfold execOp;rw[ho]) ?_) ⟨gg.toList,by simp,g2⟩ g3 Q,by rw[ll]⟩
 have PM:(fs.mapM λf=>(do pure (f.offset,<-sizeOf f.type):Sem (Nat×Nat))).run P w=.ok (fs.toList.map λf=>(f.offset,((P.info? f.type).map (·.size)).getD 0)).toArray w:=by
  rw[Array.mapM_eq_mapM_toList,Sem.run_map,Hl _ vo]
  rfl
 have yi:(ps.map λ(x:Nat×Operand)=>(x.1,a.eval x.2)).toList=ps.toList.map λp=>(p.1,a.eval p.2):=by simp
 simp only[Instr.build,Sem.run_bind,zeroValue,typeInfo,run_program,hi,Result.andThen_ok,Sem.run_pure,hz,run_underlying hu,PM,yi,g1]
end
section
variable {M M':Nat->Prop} {B:dt} {d:Nat} {up:Nat->Nat->Value} {s:St} {ρ:List T} {G:Gh} {a:Act} {w:World} {S:Nat->ay} {P:Program}
structure vp (M':Nat->Prop) (d:Nat) (up:Nat->Nat->Value) (ρ:List T) (G':Gh) (a':Act) (w':World) (W:St):Prop where
 tm:∀e n u,e<=d->W.look (.t e n)=some u->bY G' w' ρ u (mJ up d a' e n)
 bx:∀b u,W.look (.x b)=some u->eC G' w' ρ b u
 ob:∀i u,W.look (.o i)=some u->bZ G' w' ρ i u
 eD:∀r u,W.look r=some u->∀i∈cp u,M' i
 key:∀i,(W.look (.x i)≠none∨W.look (.o i)≠none)->M' i
 fg:∀b l,G'.ω b=some l->M' l.id∧b<w'.heap.size
structure gA (w w':World):Prop where
 os:w'.os=w.os
 tape:w'.tape=w.tape
 output:w'.output=w.output
theorem Rel.step(h:Rel M B d up s ρ G a w){N:Nat->Prop}{G':Gh}{w':World}{W:St}(k:cB (lY W) N G w G' w'){dst:Option Nat}{v:Value}
  (hN:∀i,N i->¬M i)(hM:∀i,M i->M' i)(hd:∀n,dst=some n->W.look (.t d n)≠none)(so:gA w w')(st:vp M' d up ρ G' (a.put dst v) w' W):
  Rel M' B d up (s.dT W) ρ G' (a.put dst v) w':=by
 refine⟨?_,?_,?_,?_,?_,st.fg,?_,?_,λi b hb=>⟨hM i (h.bt i b hb).1,?_⟩⟩
 ·intro e n he
  rw[St.aE]
  cases hl:W.look (.t e n)with
  |some u=>exact st.tm e n u he hl
  |none=>
   rw[Br λ⟨h1,h2⟩=>hd n h2 (h1▸hl)]
   exact(h.tm e n he).aG k λi hi hn=>hN i hn (h.eD _ i hi)
 ·intro b
  rw[St.aE]
  cases hl:W.look (.x b)with
  |some u=>exact st.bx b u hl
  |none=>
   by_cases hu:s.get (.x b)=.un
   ·simp only[Option.getD_none,hu];trivial
   ·exact(h.bx b).aG k (λhk=>hk hl) (λhn=>hN b hn (h.key b (.inl hu))) λi hi hn=>hN i hn (h.eD _ i hi)
 ·intro i
  rw[St.aE]
  cases hl:W.look (.o i)with
  |some u=>exact st.ob i u hl
  |none=>
   by_cases hu:s.get (.o i)=.un
   ·simp only[Option.getD_none,hu];trivial
   ·exact(h.ob i).aG k (λp hk=>hk hl) (λhn=>hN i hn (h.key i (.inr hu))) λj hj hn=>hN j hn (h.eD _ j hj)
 ·intro r i hi
  rw[St.aE]at hi
  cases hl:W.look r with
  |some u=>rw[hl]at hi;exact st.eD r u hl i hi
  |none=>rw[hl]at hi;exact hM i (h.eD r i hi)
 ·intro i hi
  rw[St.aE,St.aE]at hi
  rcases hi with hi|hi
  ·cases hl:W.look (.x i)with
   |some u=>exact st.key i (.inl (by rw[hl];simp))
   |none=>rw[hl]at hi;exact hM i (h.key i (.inl hi))
  ·cases hl:W.look (.o i)with
   |some u=>exact st.key i (.inr (by rw[hl];simp))
   |none=>rw[hl]at hi;exact hM i (h.key i (.inr hi))
 ·have:=h.dn;cases dst<;>exact this
 ·obtain⟨b1,b2,b3,b4,b5,b6,b7⟩:=h.base
  refine⟨so.os.trans b1,so.tape.trans b2,so.output.trans b3,Nat.le_trans b4 k.size,λb hb h0=>?_,λb hb=>?_,b7⟩
  ·obtain⟨h1,h2⟩:=b5 b hb h0
   obtain⟨_,h4⟩:=k.free b (Nat.lt_of_lt_of_le hb b4) (s6 h1)
   exact⟨k.Ns b (Nat.lt_of_lt_of_le hb b4) h1,h4.trans h2⟩
  ·obtain⟨h1,h2⟩:=b6 b hb
   obtain⟨h3,h4⟩:=k.own b .f h1 (λhf=>hf)
   exact⟨h3,h4.trans h2⟩
 ·obtain⟨h1,h2⟩:=h.bt i b hb
  rw[(k.nm i λhn=>hN i hn h1).1];exact h2
theorem PN{W W1 W2:St}(hW:∀r,W.look r=(W2.look r).or (W1.look r)):(∀l,lY W1 l->lY W l)∧(∀l,lY W2 l->lY W l):=by
 constructor
 ·intro l hl
  cases l with
  |f=>exact hl
  |x b=>show W.look _≠none;rw[hW];intro e;rw[Option.or_eq_none_iff]at e;exact hl e.2
  |o i p=>show W.look _≠none;rw[hW];intro e;rw[Option.or_eq_none_iff]at e;exact hl e.2
 ·intro l hl
  cases l with
  |f=>exact hl
  |x b=>show W.look _≠none;rw[hW];intro e;rw[Option.or_eq_none_iff]at e;exact hl e.1
  |o i p=>show W.look _≠none;rw[hW];intro e;rw[Option.or_eq_none_iff]at e;exact hl e.1
theorem Af{k:Wk}{G1:Gh}(h:Rel M B d up s ρ G a w)(hk:cC M B d up ρ G a w k G1){dst:Option Nat}{v:Value}{w':World}{G2:Gh}{N:Nat->Prop}{W W2:St}
  (hW:∀r,W.look r=(W2.look r).or (k.w.look r))(aG:cB (lY W2) N G1 w G2 w')(hN:∀i,N i->¬M i)(hM:∀i,M i->M' i)
  (hd:∀n,dst=some n->W2.look (.t d n)≠none)(so:gA w w')(st:vp M' d up ρ G2 (a.put dst v) w' W2):
  Rel M' B d up (s.dT W) ρ G2 (a.put dst v) w':=by
 have hg:∀r,(k.r.dT W).get r=((k.r.dT k.w).dT W2).get r:=by
  intro r
  rw[St.aE,St.aE,St.aE,hW]
  cases W2.look r<;>rfl
 obtain⟨k1,k2⟩:=PN hW
 refine h.glue (s':=k.r) ((hk.aG.mono k1 λ_ hf=>hf.elim).trans (aG.mono k2 λ_ hn=>hn)) hN hM (λn hn he=>?_) ((hk.rel.step aG hN hM hd so st).congr hg)
 rw[hW,Option.or_eq_none_iff]at he
 exact hd n hn he.1
variable {cx:Cx} {bW dR oi:Nat} {R:List aM} {ct:Ct} {k':Wk} {o:Oper} {Q:Exit->Act->World->Prop}
def Mn(M:Nat->Prop)(lo hi:Nat):Nat->Prop:=λi=>M i∨(lo<=i∧i<hi)
theorem Mn.left{M:Nat->Prop}{lo hi i:Nat}(h:M i):Mn M lo hi i:=.inl h
theorem PO{k:Wk}{v:SV}(r:aM):(bm d o k v).w.look r=if o.dst.map (aM.t d)=some r then some v else k.w.look r:=by
 unfold bm
 cases o.dst with
 |none=>simp
 |some n=>
  simp only[Option.map_some,aJ]
  split
  ·rename_i he;subst he;exact St.aK _ _ _
  ·rename_i he;exact St.bJ _ _ he
def dF(d:Nat)(o:Oper)(v:SV):St:=match o.dst with|some n=>[(.t d n,v)]|none=>[]
theorem BI{v:SV}(r:aM):(dF d o v).look r=if o.dst.map (aM.t d)=some r then some v else none:=by
 unfold dF
 cases o.dst with
 |none=>simp[St.look]
 |some n=>
  simp only[Option.map_some,aJ,St.look]
  cases hb:(aM.t d n).beq r with
  |true=>simp[aM.beq_iff.1 hb]
  |false=>
   have:¬(aM.t d n=r):=λe=>by simp[aM.beq_iff.2 e]at hb
   simp[this]
theorem iS(A C:St)(r:aM):(A++C).look r=(A.look r).or (C.look r):=by
 induction A with
 |nil=>simp[St.look]
 |cons x A ih=>
  obtain⟨r',v⟩:=x
  simp only[List.cons_append,St.look]
  cases r'.beq r<;>simp[ih]
theorem pY(r r':aM)(v:SV):St.look [(r,v)] r'=if r=r' then some v else none:=by
 simp only[St.look]
 cases hb:r.beq r' with
 |true=>simp[aM.beq_iff.1 hb]
 |false=>
  have:¬(r=r'):=λe=>by simp[aM.beq_iff.2 e]at hb
  simp[this]
theorem BJ{k k0:Wk}{v:SV}{W2:St}(hk:∀r,k.w.look r=(W2.look r).or (k0.w.look r))(r:aM):(bm d o k v).w.look r=((dF d o v++W2).look r).or (k0.w.look r):=by
 rw[PO,iS,BI,hk]
 split<;>simp
theorem pH{k:Wk}{r:aM}{v:SV}(r':aM):(k.w.set r v).look r'=(St.look [(r,v)] r').or (k.w.look r'):=by
 rw[pY]
 by_cases h:r=r'
 ·subst h;rw[St.aK];simp
 ·rw[St.bJ _ _ h];simp[h]
theorem hZ{x u:SV}{W:St}{r:aM}(h:(dF d o x++W).look r=some u):(∃n,o.dst=some n∧r=.t d n∧u=x)∨W.look r=some u:=by
 rw[iS,BI]at h
 split at h
 ·rename_i he
  cases hd:o.dst with
  |none=>simp[hd]at he
  |some n=>
   simp[hd]at he
   simp at h
   exact .inl ⟨n,rfl,he.symm,h.symm⟩
 ·simp at h
  exact .inr h
theorem gh{r r':aM}{v u:SV}{W:St}(h:St.look ((r,v)::W) r'=some u):(r'=r∧u=v)∨W.look r'=some u:=by
 simp only[St.look]at h
 cases hb:r.beq r' with
 |true=>simp[hb]at h;exact .inl ⟨(aM.beq_iff.1 hb).symm,h.symm⟩
 |false=>simp[hb]at h;exact .inr h
theorem Ag{x:SV}{W:St}{n:Nat}(h:o.dst=some n):(dF d o x++W).look (.t d n)≠none:=by
 rw[iS,BI,h];simp
def Gh.box(G:Gh)(b i:Nat):Gh:=
 {G with ω:=λc=>if c=b then some (.x i)else G.ω c,β:=λj=>if j=i then b else G.β j}
theorem Hm{s:St}(h:Rel M B d up s ρ G a w){b:Nat}(hb:w.heap.size<=b):G.ω b=none:=by
 cases ho:G.ω b with
 |none=>rfl
 |some l=>have:=(h.fg b l ho).2;omega
theorem yj(w:World)(o:Obj):gA w (w.alloc o):=⟨rfl,rfl,rfl⟩
theorem Ho{k:Wk}{G1:Gh}(h:Rel M B d up s ρ G a w)(hk:cC M B d up ρ G a w k G1)(hn:∀n,o.dst=some n->n<a.tmps.size)(hM:¬M k.ct.i)
  {aX:Array Value}{t:TypeId}{ag:Bool}{cs:List Ce}(iR:aF G1 w ρ cs aX.toList)(yk:∀i∈cJ cs,M i)
  (hx:(execOp a.eval o).run P w=.ok (.value (.pointer (some ⟨w.heap.size,0,none⟩))) (w.alloc (.cells aX t))):
  a_ P (Mn M k.ct.i (k.ct.i+1)) B d up ρ a w s o (bm d o {(k.set (.x k.ct.i) (.v ag cs))with ct:=⟨k.ct.a,k.ct.i+1⟩} (.pt k.ct.i 0)).w Q:=by
 have hf:=Hm hk.rel (Nat.le_refl w.heap.size)
 have hK:cB (lY (dF d o (.pt k.ct.i 0)++[(.x k.ct.i,.v ag cs)])) (λi=>i=k.ct.i) G1 w (G1.box w.heap.size k.ct.i) (w.alloc (.cells aX t)):=by
  refine⟨by simp,λb hb h0=>?_,λb hb h0=>?_,λb l hb _=>?_,λi hi=>?_⟩
  ·have:b≠w.heap.size:=by omega
   exact⟨(Gh.rb (by simp[Gh.box,this])).trans h0,heap_alloc_old w _ b hb⟩
  ·have:b≠w.heap.size:=by omega
   simp[Gh.box,this,h0]
  ·have bH:=(hk.rel.fg b l hb).2
   have:b≠w.heap.size:=by omega
   exact⟨by simp[Gh.box,this,hb],heap_alloc_old w _ b bH⟩
  ·exact⟨by simp[Gh.box,hi],λ_ _=>rfl⟩
 have cP:∀i∈cJ cs,¬(i=k.ct.i):=λi hi e=>hM (e▸yk i hi)
 simp only[a_,Oper.wp,hx,Oper.upon]
 refine⟨G1.box w.heap.size k.ct.i,Af h hk (W2:=dF d o (.pt k.ct.i 0)++[(.x k.ct.i,.v ag cs)]) (BJ (W2:=[(.x k.ct.i,.v ag cs)]) (k:={(k.set (.x k.ct.i) (.v ag cs))with ct:=⟨k.ct.a,k.ct.i+1⟩}) λr=>by exact pH (k:=k) (r:=.x k.ct.i) (v:=.v ag cs) r)
  hK (λi hi=>by subst hi;exact hM) (λi hi=>.inl hi) (λn mN=>Ag mN) (yj _ _) ?_,ul _ _ _⟩
 have iZ:Mn M k.ct.i (k.ct.i+1) k.ct.i:=.inr ⟨Nat.le_refl _,Nat.lt_succ_self _⟩
 refine⟨λe n u he hl=>?_,λb u hl=>?_,λi u hl=>?_,λr u hl i hi=>?_,λi hi=>?_,λb l hb=>?_⟩
 ·rcases hZ hl with⟨n',eu,e1,rfl⟩|hl
  ·cases e1
   rw[eu,ET (hn _ eu)]
   simp[bY,Gh.box]
  ·rcases gh hl with⟨e1,_⟩|hl
   ·cases e1
   ·cases hl
 ·rcases hZ hl with⟨n',eu,e1,rfl⟩|hl
  ·cases e1
  ·rcases gh hl with⟨e1,rfl⟩|hl
   ·cases e1
    refine⟨by simp[Gh.box],aX,t,?_,iR.aG hK cP⟩
    simpa only[Gh.box,if_pos]using heap_alloc_new w (.cells aX t)
   ·cases hl
 ·rcases hZ hl with⟨n',eu,e1,rfl⟩|hl
  ·cases e1
  ·rcases gh hl with⟨e1,rfl⟩|hl
   ·cases e1
   ·cases hl
 ·rcases hZ hl with⟨n',eu,e1,rfl⟩|hl
  ·simp[cp]at hi;subst hi;exact iZ
  ·rcases gh hl with⟨e1,rfl⟩|hl
   ·exact .inl (yk i hi)
   ·cases hl
 ·have:∀r:aM,(r=.x i∨r=.o i)->St.look (dF d o (.pt k.ct.i 0)++[(aM.x k.ct.i,SV.v ag cs)]) r≠none->i=k.ct.i:=by
   intro r hr hl
   obtain⟨u,hu⟩:=Option.ne_none_iff_exists'.1 hl
   rcases hZ hu with⟨n',eu,e1,rfl⟩|hl
   ·rcases hr with rfl|rfl<;>cases e1
   ·rcases gh hl with⟨e1,rfl⟩|hl
    ·rcases hr with rfl|rfl
     ·cases e1;rfl
     ·cases e1
    ·cases hl
  rcases hi with hi|hi
  ·rw[this _ (.inl rfl) hi];exact iZ
  ·rw[this _ (.inr rfl) hi];exact iZ
 ·simp only[Gh.box]at hb
  split at hb
  ·rename_i he
   cases hb
   exact⟨iZ,by simp[he]⟩
  ·obtain⟨h1,h2⟩:=hk.rel.fg b l hb
   exact⟨.inl h1,by simp;omega⟩
theorem PP(cN:cW P cx)(h:Rel M B d up s ρ G a w)(hn:∀n,o.dst=some n->n<a.tmps.size){t:Nat}(ho:o.op=.alloc t)
  (hk:gb cx bW dR d o oi ⟨s.only R,[],ct,[]⟩=some k')(hM:∀i,ct.i<=i->i<k'.ct.i->¬M i):a_ P (Mn M ct.i k'.ct.i) B d up ρ a w s o k'.w Q:=by
 have hw:=cC.start h R ct
 simp only[gb,ho,bQ,aJ]at hk
 obtain⟨ti,ed,hk⟩:=hk
 have dN:bm d o {(Wk.set ⟨s.only R,[],ct,[]⟩ (.x ct.i) (.v ti.ag ti.zero))with ct:=⟨ct.a,ct.i+1⟩} (.pt ct.i 0)=k':=hk
 have mX:k'.ct.i=ct.i+1:=by rw[<-dN,ll]
 have hT:=cN.ty _ _ ed
 obtain⟨i,z,hi,hs,_,hz,ri⟩:=hT.info
 obtain⟨yh,oP⟩:=Ae (G:=G) (w:=w) (ρ:=ρ) ri
 rw[mX,<-dN]
 refine Ho (aX:=z.cells) (t:=t) h hw hn (hM _ (Nat.le_refl _) (by simp only[mX];omega)) yh (λi hi=>by rw[oP]at hi;cases hi) ?_
 unfold execOp
 rw[ho]
 simp[Instr.alloc,zeroValue,typeInfo,hi,hz,newVar,newRow]
theorem PQ(cN:cW P cx)(h:Rel M B d up s ρ G a w)(hn:∀n,o.dst=some n->n<a.tmps.size){t:Nat}{x:Operand}(ho:o.op=.box t x)
  (hk:gb cx bW dR d o oi ⟨s.only R,[],ct,[]⟩=some k')(hM:∀i,ct.i<=i->i<k'.ct.i->¬M i):a_ P (Mn M ct.i k'.ct.i) B d up ρ a w s o k'.w Q:=by
 have hw:=cC.start h R ct
 simp only[gb,ho,bQ]at hk
 obtain⟨ti,ed,cs,iR,hk⟩:=hk
 cases hl:Nat.beq cs.length ti.sz with
 |false=>simp[hl]at hk
 |true=>
  simp only[hl,cond_true,aJ]at hk
  have dN:bm d o {(Wk.set ⟨s.only R,[],ct,[]⟩ (.x ct.i) (.v ti.ag cs))with ct:=⟨ct.a,ct.i+1⟩} (.pt ct.i 0)=k':=hk
  have mX:k'.ct.i=ct.i+1:=by rw[<-dN,ll]
  obtain⟨hr,hm⟩:=hw.fH x
  unfold cellsOf at iR
  split at iR
  ·rename_i ag es dl
   cases iR
   rw[dl]at hr hm
   rw[mX,<-dN]
   refine Ho (aX:=(a.eval x).cells) (t:=t) h hw hn (hM _ (Nat.le_refl _) (by simp only[mX];omega)) (Hk hr) hm ?_
   unfold execOp
   rw[ho]
   simp[Instr.box,newVar,newRow]
  ·cases iR
theorem Hp{k:Wk}{G1:Gh}(hk:cC M B d up ρ G a w k G1):∀(xs:List Operand) (bs:List Nat),
  (xs.mapM λx=>match bz d k.get x with| .pt b 0=>some b|_=>none)=some bs->xs.map a.eval=bs.map (λb=>Value.pointer (some ⟨G1.β b,0,none⟩))∧∀b∈bs,M b
 | [],bs,h=>by simp at h;subst h;exact⟨rfl,λ_ h=>by cases h⟩
 |x::xs,bs,h=>by
  simp only[List.mapM_cons,Option.pure_def,Option.bind_eq_bind,bQ,aJ]at h
  obtain⟨b,hb,td,Hq,rfl⟩:=h
  obtain⟨h1,h2⟩:=Hp hk xs td Hq
  obtain⟨hr,hm⟩:=hk.fH x
  split at hb
  ·rename_i b' dl
   cases hb
   rw[dl]at hr hm
   refine⟨by simp only[List.map_cons,h1];rw[show a.eval x=_ from hr],λc hc=>?_⟩
   rcases List.mem_cons.1 hc with rfl|hc
   ·exact hm _ (by simp[cp])
   ·exact h2 c hc
  ·cases hb
theorem PR(h:Rel M B d up s ρ G a w)(hn:∀n,o.dst=some n->n<a.tmps.size){fn:Fn}{first sT:Array Operand}(ho:o.op=.makeFunc fn first sT)
  (hk:gb cx bW dR d o oi ⟨s.only R,[],ct,[]⟩=some k'):a_ P M B d up ρ a w s o k'.w Q∧k'.ct.i=ct.i:=by
 have hw:=cC.start h R ct
 cases fn with
 |func f=>
  simp only[gb,ho]at hk
  cases he:first.isEmpty with
  |false=>simp[he]at hk
  |true=>
   simp only[he,cond_true,bQ,aJ]at hk
   obtain⟨bs,Hq,hk⟩:=hk
   have dN:bm d o ⟨s.only R,[],ct,[]⟩ (.cl f bs)=k':=hk
   subst dN
   obtain⟨h1,h2⟩:=Hp hw _ bs Hq
   have BK:first=#[]:=by simpa using he
   refine⟨oO h hw hn (x:=.cl f bs) (v:=.func (.func f) #[] (sT.map a.eval)) (wY (x:=Instr.makeFunc (.func f) (first.map a.eval) (sT.map a.eval)) (by unfold execOp;rw[ho]) ?_) ?_ h2 Q,by rw[ll]⟩
   ·rw[BK];simp[Instr.makeFunc]
   ·show _=_
    congr 1
    apply Array.ext'
    simpa using h1
 |_=>simp[gb,ho]at hk
end
end Go.Proofs.YtbhplkilhknciaaC

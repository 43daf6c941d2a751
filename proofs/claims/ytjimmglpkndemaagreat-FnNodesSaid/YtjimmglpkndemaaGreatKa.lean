/- The walk by reflection: a part of its laws, for any function. Conditions: none. -/
import Derived.Calls
import Derived.Orders
import Derived.Below
import Derived.KernelRfl
import Derived.Laws.OwnMore
import Derived.Laws.Cells
import Derived.Laws.IdiomCopy
import Derived.Laws.Small
import Derived.Laws.Entries
import Derived.Laws.StructEq
import Derived.Laws.BytesString
namespace Go.Proofs.YtjimmglpkndemaaGreatC
theorem bP.{u}{α:Type u}(a b:α):(some a=some b)=(a=b):=Option.some.injEq a b
theorem bL(a b:Bool):((a&&b)=true)=(a=true∧b=true):=Bool.and_eq_true a b
theorem cU.{u,v}{α:Type u}{β:Type v}{x:Option α}{f:α->Option β}{b:β}:x.bind f=some b↔∃a,x=some a∧f a=some b:=Option.bind_eq_some_iff
theorem ew{n m:Nat}(h:Nat.beq n m=true):n=m:=Nat.eq_of_beq_eq_true h
theorem aF{a b:Prop}(x:a)(y:b):a∧b:=⟨x,y⟩
theorem cE:(false=true)=False:=Bool.false_eq_true
set_option linter.unusedVariables false
inductive T where
 |c (v:Value)
 |l (xs:List (List T))
 deriving Inhabited
inductive Lf where
 |k (v:Value)
 |a (n:Nat)
 |e
inductive bN where
 |t (d n:Nat)
 |x (n:Nat)
 |o (n:Nat)
abbrev nh:=List (Lf×Nat×Nat)
inductive Ce where
 |p (x:Lf)
 |o (id:Nat) (q:nh)
 |n
 |d
inductive Pv where
 |z
 |w (tk:Nat) (x lo:Lf)
inductive SV where
 |un
 |v (ag:Bool) (cs:List Ce)
 |pt (bx off:Nat)
 |ep (id:Nat) (q:nh) (ix:Lf) (wd off:Nat)
 |fp (s ix:Lf) (wd off:Nat)
 |tp (vs:List (Bool×List Ce))
 |cl (f:Nat) (bs:List Nat)
 |ob (dp:Bool) (x:Lf)
 |fz (pv:Pv) (x:Lf)
 |tk (x m:Lf)
 |fl (x:Lf)
 |fr (x:Lf)
def bN.beq:bN->bN->Bool
 | .t d n,.t e m=>Nat.beq n m&&Nat.beq d e
 | .x n,.x m=>Nat.beq n m
 | .o n,.o m=>Nat.beq n m
 |_,_=>false
theorem bN.beq_iff{r s:bN}:r.beq s=true↔r=s:=by
 cases r<;>cases s<;>simp[bN.beq,and_comm]
instance:DecidableEq bN:=λr s=>if h:r.beq s=true then isTrue (bN.beq_iff.1 h)else isFalse λe=>h (bN.beq_iff.2 e)
abbrev St:=List (bN×SV)
def St.get(s:St)(r:bN):SV:=
 match s with
 | []=>.un
 |(r',v)::s=>bif r'.beq r then v else St.get s r
def St.set(s:St)(r:bN)(v:SV):St:=
 match s with
 | []=>[(r,v)]
 |(r',v')::s=>bif r'.beq r then(r,v)::s else(r',v')::St.set s r v
theorem St.cw(s:St)(r:bN)(v:SV):(s.set r v).get r=v:=by
 induction s with
 |nil=>simp[St.set,St.get,(bN.beq_iff).2 rfl]
 |cons x s ih=>
  obtain⟨r',v'⟩:=x
  cases h:r'.beq r with
  |true=>simp[St.set,St.get,h,(bN.beq_iff).2 rfl]
  |false=>simp[St.set,St.get,h,ih]
theorem St.eT(s:St){r r':bN}(v:SV)(h:r≠r'):(s.set r v).get r'=s.get r':=by
 have hb:r.beq r'=false:=by
  cases hh:r.beq r' with
  |false=>rfl
  |true=>exact absurd (bN.beq_iff.1 hh) h
 induction s with
 |nil=>simp[St.set,St.get,hb]
 |cons x s ih=>
  obtain⟨r2,v2⟩:=x
  cases h2:r2.beq r with
  |true=>
   have:=bN.beq_iff.1 h2
   subst this
   simp[St.set,St.get,h2,hb]
  |false=>
   cases h3:r2.beq r' with
   |true=>simp[St.set,St.get,h2,h3]
   |false=>simp[St.set,St.get,h2,h3,ih]
inductive Prim where
 |bin (op:BinOp)
 |bb (op:BinOp)
 |un (op:UnOp)
 |len
 |lens
 |lk
 |cell (w j:Nat)
 |bF (w j:Nat)
 |idx
 |sub (w:Nat) (lo hi:Bool)
 |AH (lo hi:Bool)
 |lit (w:Nat) (ms:List Bool)
 |app (sc:Bool) (w:Nat)
 |mk
 |put (sc:Bool) (w off n:Nat)
 |iN (ms:List Bool) (w off:Nat)
 |lF (w j:Nat)
 |ya (w j:Nat)
 |eqs (ks:List Nat)
 |mx
 |mn
 |Qc (k:IntKind)
 |rP
 |str
 |byt
 |yb
 |ll
inductive Ew where
 |pr (p:Prim) (xs:List Lf)
 |cl (g:Nat) (xs:List Lf) (m:Nat)
inductive PL where
 |ret (xs:List Lf)
 |ins (i:Ew) (k:PL)
 |ite (c:Nat) (x y:PL)
 |loop (xs:List Lf) (body:PL)
 |join (k:PL) (body:PL)
 |go (j:Nat) (xs:List Lf)
 |rQ (tag:Nat) (s:List St)
def T.bQ:T:=.l []
def Lf.ev(ρ:List T):Lf->T
 | .k v=>.c v
 | .a n=>ρ.getD n T.bQ
 | .e=>.l []
def uX:Nat:=4294967296
def jS(op:BinOp):Value->Value->Option Value
 | .int k a,.int k' b=>
  match op with
  | .shl=>if b<0 then none else some (.int k (k.wrap (a*2^(min b.toNat k.bits))))
  | .shr=>if b<0 then none else some (.int k (a.fdiv (2^(min b.toNat k.bits))))
  |op=>
  if k=k' then
   match op with
   | .and=>some (.int k (k.wrap ((BitVec.ofInt k.bits a&&&BitVec.ofInt k.bits b).toNat:Nat)))
   | .or=>some (.int k (k.wrap ((BitVec.ofInt k.bits a|||BitVec.ofInt k.bits b).toNat:Nat)))
   | .xor=>some (.int k (k.wrap ((BitVec.ofInt k.bits a^^^BitVec.ofInt k.bits b).toNat:Nat)))
   | .andNot=>some (.int k (k.wrap ((BitVec.ofInt k.bits a&&& ~~~BitVec.ofInt k.bits b).toNat:Nat)))
   | .add=>some (.int k (k.wrap (a+b)))
   | .sub=>some (.int k (k.wrap (a-b)))
   | .mul=>some (.int k (k.wrap (a*b)))
   | .quo=>if b=0 then none else some (.int k (k.wrap (a.tdiv b)))
   | .rem=>if b=0 then none else some (.int k (a.tmod b))
   | .eql=>some (.bool (a==b))
   | .neq=>some (.bool (a !=b))
   | .lss=>some (.bool (decide (a<b)))
   | .leq=>some (.bool (decide (a<=b)))
   | .gtr=>some (.bool (decide (a>b)))
   | .geq=>some (.bool (decide (a>=b)))
   |_=>none
  else none
 | .string a,.string b=>
  match op with
  | .add=>if a.size+b.size<uX then some (.string (a++b))else none
  | .eql=>some (.bool (a.toList==b.toList))
  | .neq=>some (.bool !(a.toList==b.toList))
  |_=>none
 |_,_=>none
def Jr(op:BinOp):Value->Value->Option Value
 | .bool a,.bool b=>
  match op with
  | .eql=>some (.bool (a==b))
  | .neq=>some (.bool !(a==b))
  |_=>none
 |_,_=>none
def unV(op:UnOp):Value->Option Value
 | .bool a=>match op with| .not=>some (.bool !a)|_=>none
 | .int k a=>match op with| .neg=>some (.int k (k.wrap (0-a)))|_=>none
 |_=>none
def T.val:T->Option Value
 | .c v=>some v
 | .l _=>none
def T.int:T->Option Int
 | .c (.int _ n)=>some n
 |_=>none
def T.rows:T->Option (List (List T))
 | .l xs=>some xs
 |_=>none
def uY(s i:T):Option (List T):=
 s.rows.bind λxs=>i.int.bind λn=>if 0<=n then xs[n.toNat]? else none
def nT(w:Nat):Nat->List T->List (List T)
 |0,_=>[]
 |n+1,ts=>ts.take w::nT w n (ts.drop w)
def eA:T->Bool
 | .c (.int ..)| .c (.bool _)| .c (.string _)=>true
 |_=>false
def Qd:Nat->Value->Value->Option Bool
 |1,.int k a,.int k' b=>if k=k' then some (a==b)else none
 |4,.bool a,.bool b=>some (a==b)
 |2,.string a,.string b=>some (a==b)
 |_,_,_=>none
def xa:List Nat->List T->List T->Option Bool
 | [],[],[]=>some true
 |k::ks,.c x::xs,.c y::ys=>(Qd k x y).bind λb=>(xa ks xs ys).bind λc=>some (b&&c)
 |_,_,_=>none
def setRow(xs:List (List T))(i off:Nat)(vs:List T):List (List T):=
 xs.modify i λr=>r.take off++vs++r.drop (off+vs.length)
def qE:List Bool->List T->Bool
 |true::ms,t::ts=>eA t&&qE ms ts
 |false::ms,_::ts=>qE ms ts
 |true::_,[]=>false
 |_,_=>true
def okW(w:Nat):List (List T)->Bool
 | []=>true
 |r::_=>Nat.beq r.length w
def rR(us:List (List T))(n k:Nat):Bool:=((us.drop n).take k).all λr=>!r.isEmpty
def o_(us:List (List T))(n k:Nat):List (List T):=us.take n++List.replicate k []++us.drop (n+k)
def Q6:List T->Option Int
 | [.c (.int .u8 n)]=>some n
 |_=>none
def yc:List (List T)->Option (List Int)
 | []=>some []
 |r::rs=>(Q6 r).bind λn=>(yc rs).bind λns=>some (n::ns)
def AJ(ns:List Int):ByteArray:=⟨(ns.map λn=>UInt8.ofNat n.toNat).toArray⟩
def Prim.ev:Prim->List T->Option T
 | .bin op,[x,y]=>x.val.bind λa=>y.val.bind λb=>(jS op a b).bind λr=>some (.c r)
 | .bb op,[x,y]=>x.val.bind λa=>y.val.bind λb=>(Jr op a b).bind λr=>some (.c r)
 | .un op,[x]=>x.val.bind λa=>(unV op a).bind λr=>some (.c r)
 | .len,[.l xs]=>some (.c (.int .i64 xs.length))
 | .lens,[.c (.string s)]=>some (.c (.int .i64 s.size))
 | .lk,[s,i]=>(uY s i).bind λ_=>some (.c (.bool true))
 | .cell w j,[s,i]=>(uY s i).bind λr=>if r.length=w then r[j]? else none
 | .bF w j,[s,i]=>(uY s i).bind λr=>if r.length=w then(r[j]?).bind λt=>if eA t=true then some t else none else none
 | .idx,[.c (.string s),.c (.int _ n)]=>if 0<=n then(if h:n.toNat<s.size then some (.c (.int .u8 (s.get n.toNat h).toNat))else none)else none
 | .sub w lo hi,.l xs::ts=>if okW w xs=true then
  (match lo,hi,ts with
   |false,false,[]=>some (0,(xs.length:Int))
   |true,false,[.c (.int _ l)]=>some (l,(xs.length:Int))
   |false,true,[.c (.int _ h)]=>some (0,h)
   |true,true,[.c (.int _ l),.c (.int _ h)]=>some (l,h)
   |_,_,_=>none).bind λ(l,h)=>
   if 0<=l then(if l<=h then(if h<=xs.length then some (.l ((xs.take h.toNat).drop l.toNat))else none)else none)else none
  else none
 | .AH lo hi,.c (.string s)::ts=>
  (match lo,hi,ts with
   |false,false,[]=>some (0,(s.size:Int))
   |true,false,[.c (.int _ l)]=>some (l,(s.size:Int))
   |false,true,[.c (.int _ h)]=>some (0,h)
   |true,true,[.c (.int _ l),.c (.int _ h)]=>some (l,h)
   |_,_,_=>none).bind λ(l,h)=>
   if 0<=l then(if l<=h then(if h<=s.size then some (.c (.string (s.extract l.toNat h.toNat)))else none)else none)else none
 | .lit w ms,ts=>if 0<w then(if qE ms ts=true then some (.l (nT w (ts.length/w) ts))else none)else none
 | .app sc w,[.l xs,.l ys]=>if xs.length+ys.length<uX then(if(!sc||ys.all (·.all eA))=true then(if okW w xs=true then(if okW w ys=true then some (.l (xs++ys))else none)else none)else none)else none
 | .mk,.c (.int _ n):: .c (.int _ c)::ts=>if 0<=n then(if n=c then(if c<uX then some (.l (List.replicate n.toNat ts))else none)else none)else none
 | .put sc w off n,s::i::vs=>(uY s i).bind λr=>if r.length=w then(if off+n<=w then(if vs.length=n then(if(!sc||vs.all eA)=true then
   s.rows.bind λxs=>i.int.bind λk=>some (.l (setRow xs k.toNat off vs))else none)else none)else none)else none
 | .iN ms w off,s::i::vs=>(uY s i).bind λr=>if r.length=w then(if off+vs.length<=w then(if qE ms vs=true then
   s.rows.bind λxs=>i.int.bind λk=>some (.l (setRow xs k.toNat off vs))else none)else none)else none
 | .lF w j,[s,i]=>(uY s i).bind λr=>if r.length=w then(r[j]?).bind λt=>t.rows.bind λxs=>some (.l xs)else none
 | .ya w j,[s,i,v]=>(uY s i).bind λr=>if r.length=w then(if j<w then
   s.rows.bind λxs=>i.int.bind λk=>some (.l (setRow xs k.toNat j [v]))else none)else none
 | .eqs ks,ts=>(xa ks (ts.take ks.length) (ts.drop ks.length)).bind λb=>some (.c (.bool b))
 | .mx,[.c (.int k a),.c (.int _ b)]=>some (.c (.int k (if b>a then b else a)))
 | .mn,[.c (.int k a),.c (.int _ b)]=>some (.c (.int k (if b<a then b else a)))
 | .rP,[t]=>if eA t=true then some t else none
 | .yb,[.l us,.c (.int _ n)]=>if 0<=n then(if n.toNat+1<=us.length then(if rR us n.toNat 1=true then some (.l (o_ us n.toNat 1))else none)else none)else none
 | .ll,[.l us,.c (.int _ n),.l ys]=>if 0<=n then(if n.toNat+ys.length<=us.length then(if rR us n.toNat ys.length=true then some (.l (o_ us n.toNat ys.length))else none)else none)else none
 | .Qc k,[.c (.int _ n)]=>some (.c (.int k (k.wrap n)))
 | .str,[.l xs]=>(yc xs).bind λns=>some (.c (.string (AJ ns)))
 |_,_=>none
def rS(ts:List T):Nat->Nat->List T
 |_,0=>[]
 |i,m+1=>ts.getD i T.bQ::rS ts (i+1) m
abbrev aA:=List T->Option (List T)
def Ew.ev(S:Nat->aA)(ρ:List T):Ew->Option (List T)
 | .pr p xs=>(p.ev (xs.map (Lf.ev ρ))).bind λt=>some [t]
 | .cl g xs m=>(S g (xs.map (Lf.ev ρ))).bind λts=>some (rS ts 0 m)
def iter{α β:Type}(F:(α->Option β)->α->Option β):Nat->α->Option β
 |0,_=>none
 |n+1,x=>F (iter F n) x
def rounds:Nat:=1099511627776
def PL.den(S:Nat->aA)(R:Nat)(K:List aA)(ρ:List T):PL->Option (List T)
 | .ret xs=>some (xs.map (Lf.ev ρ))
 | .ins (.pr p xs) k=>(p.ev (xs.map (Lf.ev ρ))).bind λt=>k.den S R K (ρ++[t])
 | .ins (.cl g xs m) k=>(S g (xs.map (Lf.ev ρ))).bind λts=>k.den S R K (ρ++rS ts 0 m)
 | .ite c x y=>match ρ.getD c T.bQ with
  | .c (.bool b)=>bif b then x.den S R K ρ else y.den S R K ρ
  |_=>none
 | .loop xs body=>iter (λself ts=>body.den S R (self::K) (ρ++ts)) R (xs.map (Lf.ev ρ))
 | .join k body=>body.den S R ((λts=>k.den S R K (ρ++ts))::K) ρ
 | .go j xs=>match K[j]? with
  |some f=>f (xs.map (Lf.ev ρ))
  |none=>none
 | .rQ _ _=>none
structure TI where
 sz:Nat
 bytes:Nat
 ag:Bool
 zero:List Ce
 el:Nat
 fs:List (Nat×Nat)
 kd:Nat
inductive Ck where
 |s
 |p
 |o (dp:Bool)
inductive PS where
 |v (ag:Bool) (n:Nat)
 |x (n:Nat)
structure nU where
 ps:List PS
 rs:List (Bool×List Ck)
structure Ct where
 a:Nat
 i:Nat
abbrev kl:=List (Nat×Bool)
def fact(fs:kl)(n:Nat):Option Bool:=
 match fs with
 | []=>none
 |(m,b)::fs=>bif Nat.beq m n then some b else fact fs n
inductive Cj where
 |k
 |p
 |o (dp:Bool)
 |d
inductive Rj where
 |drop
 |aH (ag:Bool) (cs:List Cj)
 |rows (js:List (Nat×Bool))
abbrev Js:=List (Nat×Bool×Rj)
structure Cx where
 ty:Nat->Option TI
 sg:Nat->Option nU
 fn:Nat->Option Func
 rT:Nat->Nat->Nat->Option Js
 fz:Nat->Nat->Nat->Bool
 nest:Nat->Bool
def kV:Value->Bool
 | .int .. | .bool _| .string _=>true
 |_=>false
def AK:Value->SV
 | .slice none 0 0=>.v false [.n]
 |v=>bif kV v then .v false [.p (.k v)]else .un
def cB(d:Nat)(s:bN->SV):Operand->SV
 | .tmp t=>s (.t d t)
 | .const v=>AK v
 | .func f=>.cl f []
 | .global _=>.un
def cellsOf:SV->Option (List Ce)
 | .v _ cs=>some cs
 |_=>none
def Lf.beq:Lf->Lf->Bool
 | .a n,.a m=>Nat.beq n m
 | .e,.e=>true
 | .k (.int k1 n),.k (.int k2 m)=>decide (k1=k2)&&decide (n=m)
 | .k (.bool b1),.k (.bool b2)=>b1==b2
 | .k (.string s1),.k (.string s2)=>s1.data.toList==s2.data.toList
 |_,_=>false
structure Wk where
 r:St
 w:St
 ct:Ct
 is:List Ew
def St.look(s:St)(r:bN):Option SV:=
 match s with
 | []=>none
 |(r',v)::s=>bif r'.beq r then some v else St.look s r
def Wk.get(k:Wk)(r:bN):SV:=
 match k.w.look r with
 |some v=>v
 |none=>k.r.get r
def Wk.em(k:Wk)(p:Prim)(xs:List Lf):Wk×Lf:=({k with ct:=⟨k.ct.a+1,k.ct.i⟩,is:=.pr p xs::k.is},.a k.ct.a)
def Wk.set(k:Wk)(r:bN)(v:SV):Wk:={k with w:=k.w.set r v}
def Wk.down(k:Wk)(x:Lf):nh->Wk×Lf
 | []=>(k,x)
 |(ix,w,j)::q=>
  let(k,y):=k.em (.lF w j) [x,ix]
  Wk.down k y q
def Wk.up(k:Wk)(x y:Lf):nh->Wk×Lf
 | []=>(k,y)
 |(ix,w,j)::q=>
  let(k,z):=k.em (.lF w j) [x,ix]
  let(k,z):=Wk.up k z y q
  k.em (.ya w j) [x,ix,z]
def Wk.val(k:Wk):Ce->Option (Wk×Lf)
 | .p x=>some (k,x)
 | .n=>some (k,.e)
 | .o id q=>
  match k.get (.o id)with
  | .ob true x=>some (k.down x q)
  | .ob false x| .fz _ x| .fl x=>match q with
   | []=>some (k,x)
   |_=>none
  |_=>none
 | .d=>none
def Wk.jI(k:Wk):List Ce->Option (Wk×List Lf)
 | []=>some (k,[])
 |c::cs=>(k.val c).bind λ(k,x)=>(Wk.jI k cs).bind λ(k,xs)=>some (k,x::xs)
def Wk.one(k:Wk):SV->Option (Wk×Lf)
 | .v false [c]=>k.val c
 |_=>none
def Wk.mj(k:Wk)(id:Nat):Option Wk:=
 match k.get (.o id)with
 | .ob _ x=>some (k.set (.o id) (.fz .z x))
 | .fz _ _=>some k
 |_=>none
def Wk.flat(k:Wk)(id:Nat):Option Wk:=
 match k.get (.o id)with
 | .ob _ x=>some (k.set (.o id) (.ob false x))
 | .fz _ _=>some k
 |_=>none
def Wk.eY(k:Wk):List Ce->Option Wk
 | []=>some k
 | .o id _::cs=>(k.mj id).bind λk=>Wk.eY k cs
 |_::cs=>Wk.eY k cs
def gd:Ce->Bool
 | .n=>true
 |_=>false
def Wk.gf(k:Wk)(fz:Bool):List Ce->List Ce->Option (Wk×List Lf×Bool)
 | [],[]=>some (k,[],true)
 |z::zs,.p x::cs=>(Wk.gf k fz zs cs).bind λ(k,xs,dp)=>some (k,x::xs,dp&& !gd z)
 |z::zs,.n::cs=>(Wk.gf k fz zs cs).bind λ(k,xs,dp)=>some (k,.e::xs,dp)
 |z::zs,.o id []::cs=>
  match k.get (.o id)with
  | .fz _ x=>(Wk.gf k fz zs cs).bind λ(k,xs,dp)=>some (k,x::xs,false)
  | .ob d x=>
   bif fz then(Wk.gf (k.set (.o id) (.fz .z x)) fz zs cs).bind λ(k,xs,dp)=>some (k,x::xs,false)
   else bif d then(Wk.gf (k.set (.o id) .un) fz zs cs).bind λ(k,xs,dp)=>some (k,x::xs,dp)
   else(Wk.gf (k.set (.o id) (.fz .z x)) fz zs cs).bind λ(k,xs,dp)=>some (k,x::xs,false)
  |_=>none
 |_,_=>none
def Wk.eF(k:Wk):List Ce->List Ce->Option (Wk×List Lf)
 | [],[]=>some (k,[])
 |z::zs,.p x::cs=>bif gd z then none else(Wk.eF k zs cs).bind λ(k,xs)=>some (k,x::xs)
 |z::zs,.n::cs=>(Wk.eF k zs cs).bind λ(k,xs)=>some (k,.e::xs)
 |z::zs,.o id []::cs=>
  match k.get (.o id)with
  | .ob true x| .fl x=>(Wk.eF (k.set (.o id) .un) zs cs).bind λ(k,xs)=>some (k,x::xs)
  |_=>none
 |_,_=>none
def Wk.rU(k:Wk)(fz:Bool)(zs cs:List Ce):Option (Wk×List Lf×Bool):=
 match(bif fz then none else k.eF zs cs)with
 |some (k,xs)=>some (k,xs,true)
 |none=>k.gf true zs cs
def gP(cs:List Ce)(off:Nat)(vs:List Ce):List Ce:=cs.take off++vs++cs.drop (off+vs.length)
def Wk.row(k:Wk)(sc:Bool)(s ix:Lf)(w off:Nat):Nat->Wk×List Ce
 |0=>(k,[])
 |n+1=>
  let(k,y):=k.em (bif sc then .bF w off else .cell w off) [s,ix]
  let(k,cs):=Wk.row k sc s ix w (off+1) n
  (k,.p y::cs)
def Wk.pc(k:Wk)(y ix:Lf)(id:Nat)(q:nh)(w off:Nat):List Ce->Wk×List Ce
 | []=>(k,[])
 |z::zs=>
  bif gd z then
   let r:=Wk.pc (k.em (.lF w off) [y,ix]).1 y ix id q w (off+1) zs
   (r.1,.o id (q++[(ix,w,off)])::r.2)
  else
   let r:=Wk.pc (k.em (.bF w off) [y,ix]).1 y ix id q w (off+1) zs
   (r.1,.p (k.em (.bF w off) [y,ix]).2::r.2)
def storeAt(cx:Cx)(k:Wk)(t:Nat)(ad v:SV):Option Wk:=
 (cx.ty t).bind λti=>(cellsOf v).bind λcs=>
 bif Nat.beq cs.length ti.sz then
  match ad with
  | .pt bx off=>
   match k.get (.x bx)with
   | .v ag yd=>bif Nat.ble (off+cs.length) yd.length then some (k.set (.x bx) (.v ag (gP yd off cs)))else none
   |_=>none
  | .ep id q ix w off=>
   bif Nat.beq (id%4) 2 then none else
   bif ti.zero.any gd then
    match q with
    | []=>(k.flat id).bind λk=>(k.eY cs).bind λk=>(k.jI cs).bind λ(k,xs)=>
     match k.get (.o id)with
     | .ob _ x=>
      let(k,y):=k.em (.put false w off xs.length) (x::ix::xs)
      some (k.set (.o id) (.ob false y))
     |_=>none
    |_=>none
   else(k.jI cs).bind λ(k,xs)=>
    match k.get (.o id)with
    | .ob dp x=>
     bif dp||q.isEmpty then
      let(k,y):=k.down x q
      let(k,y):=k.em (.put true w off xs.length) (y::ix::xs)
      let(k,y):=k.up x y q
      some (k.set (.o id) (.ob dp y))
     else none
    |_=>none
  |_=>none
 else none
def Jt(cx:Cx)(k:Wk)(t:Nat)(ad v:SV):Option Wk:=
 match ad with
 | .ep id [] ix w off=>
  (cx.ty t).bind λti=>(cellsOf v).bind λcs=>
  bif Nat.beq cs.length ti.sz&&ti.zero.any gd&&Nat.beq (id%4) 0 then
   match k.get (.o id)with
   | .ob true x=>(k.eF ti.zero cs).bind λ(k2,xs)=>
    match k2.get (.o id)with
    | .ob true _=>
     let(k3,y):=k2.em (.iN (ti.zero.map λz=>!gd z) w off) (x::ix::xs)
     some (k3.set (.o id) (.ob true y))
    |_=>none
   |_=>none
  else none
 |_=>none
def loadAt(cx:Cx)(nest:Bool)(k:Wk)(t:Nat):SV->Option (Wk×SV)
 | .pt bx off=>(cx.ty t).bind λti=>
  match k.get (.x bx)with
  | .v _ cs=>bif Nat.ble (off+ti.sz) cs.length then some (k,.v ti.ag ((cs.drop off).take ti.sz))else none
  |_=>none
 | .fp s ix w off=>(cx.ty t).bind λti=>
  let(k,cs):=k.row false s ix w off ti.sz
  some (k,.v ti.ag cs)
 | .ep id q ix w off=>(cx.ty t).bind λti=>
  match k.get (.o id)with
  | .ob true x=>
   bif nest&&ti.zero.any gd&&Nat.beq ti.zero.length ti.sz&&Nat.beq (id%2) 1 then
    let(k,y):=k.down x q
    let(k,cs):=k.pc y ix id q w off ti.zero
    some (k,.v ti.ag cs)
   else bif ti.zero.any gd then
    match q with
    | []=>bif Nat.beq (id%2) 0 then
      let(k,cs):=k.row false x ix w off ti.sz
      some (k,.v ti.ag cs)
     else(k.flat id).bind λk=>
     let(k,cs):=k.row false x ix w off ti.sz
     some (k,.v ti.ag cs)
    |_=>none
   else
    let(k,y):=k.down x q
    let(k,cs):=k.row true y ix w off ti.sz
    some (k,.v ti.ag cs)
  | .ob false x| .fz _ x=>
   match q with
   | []=>
    let(k,cs):=k.row false x ix w off ti.sz
    some (k,.v ti.ag cs)
   |_=>none
  |_=>none
 |_=>none
def nV(i:Nat):Nat:=i+(1-i%2)
def fE(i:Nat):Nat:=i+(4-i%4)%4
def nj(i:Nat):Nat:=i+(6-i%4)%4
theorem Ju(i:Nat):i<=nV i:=by unfold nV;omega
theorem AL(i:Nat):i<=fE i:=by unfold fE;omega
theorem Q7(i:Nat):i<=nj i:=by unfold nj;omega
theorem Q8(i:Nat):nj i%4=2:=by unfold nj;omega
def Ip:Lf->Bool
 | .k (.int _ n)=>decide (n=0)
 |_=>false
def Wk.mK(k:Wk)(y ix:Lf)(j:Nat)(w off:Nat):List Ce->Wk×List Ce×Lf
 | []=>(k,[],.e)
 |z::zs=>
  bif gd z then
   let r:=Wk.mK (k.em (.lF w off) [y,ix]).1 y ix j w (off+1) zs
   (r.1,.o j []::r.2.1,(k.em (.lF w off) [y,ix]).2)
  else
   let r:=Wk.mK (k.em (.bF w off) [y,ix]).1 y ix j w (off+1) zs
   (r.1,.p (k.em (.bF w off) [y,ix]).2::r.2.1,r.2.2)
def Jv(cx:Cx)(k:Wk)(t:Nat):SV->Option (Wk×SV)
 | .ep id [] ix w off=>(cx.ty t).bind λti=>
  match k.get (.o id)with
  | .fz (.w tk x0 lo) x=>
   match k.get (.o tk)with
   | .tk y0 m=>
    bif Ip lo&&x0.beq y0&&Nat.beq (ti.zero.filter gd).length 1&&Nat.beq ti.zero.length ti.sz then
     let j:=nj k.ct.i
     let r:=k.mK x ix j w off ti.zero
     let q:=r.1.em .yb [m,ix]
     some ({((q.1.set (.o tk) (.tk y0 q.2)).set (.o j) (.fl r.2.2))with ct:=⟨q.1.ct.a,j+1⟩},.v ti.ag r.2.1)
    else none
   |_=>none
  |_=>none
 |_=>none
def indexAt(cx:Cx)(k:Wk)(t:Nat)(s ix:SV):Option (Wk×SV):=
 (cx.ty t).bind λti=>(cx.ty ti.el).bind λte=>
 bif Nat.beq ti.kd 3 then
  (k.one ix).bind λ(k,i)=>
   match s with
   | .v false [.p x]=>
    let(k,_):=k.em .lk [x,i]
    some (k,.fp x i te.sz 0)
   | .v false [.o id q]=>
    match k.get (.o id),q with
    | .ob true x,q=>
     let(k,y):=k.down x q
     let(k,_):=k.em .lk [y,i]
     some (k,.ep id q i te.sz 0)
    | .ob false x,[]=>
     let(k,_):=k.em .lk [x,i]
     some (k,.ep id [] i te.sz 0)
    | .fz (.w tk x0 lo) x,[]=>
     let(k,_):=k.em .lk [x,i]
     bif Ip lo then some (k,.ep id [] i te.sz 0)else some (k,.fp x i te.sz 0)
    | .fz _ x,[]=>
     let(k,_):=k.em .lk [x,i]
     some (k,.fp x i te.sz 0)
    |_,_=>none
   |_=>none
 else none
def fieldAt(cx:Cx)(t f:Nat):SV->Option SV
 | .pt bx off=>(cx.ty t).bind λti=>(ti.fs[f]?).bind λo=>some (.pt bx (off+o.1))
 | .ep id q ix w off=>(cx.ty t).bind λti=>(ti.fs[f]?).bind λo=>some (.ep id q ix w (off+o.1))
 | .fp s ix w off=>(cx.ty t).bind λti=>(ti.fs[f]?).bind λo=>some (.fp s ix w (off+o.1))
 |_=>none
def Wk.args(k:Wk):List SV->List PS->Option (Wk×List Lf×List (Nat×Bool×Nat))
 | [],[]=>some (k,[],[])
 | .v ag cs::vs,.v xb n::ps=>
  bif (ag==xb)&&Nat.beq cs.length n then
   (k.jI cs).bind λ(k,xs)=>(Wk.args k vs ps).bind λ(k,ys,bs)=>some (k,xs++ys,bs)
  else none
 | .pt bx 0::vs,.x n::ps=>
  match k.get (.x bx)with
  | .v ag cs=>
   bif Nat.beq cs.length n then
    (k.eY cs).bind λk=>(k.jI cs).bind λ(k,xs)=>(Wk.args k vs ps).bind λ(k,ys,bs)=>some (k,xs++ys,(bx,ag,n)::bs)
   else none
  |_=>none
 |_,_=>none
def Ey:SV->List Ce
 | .v _ cs=>cs
 |_=>[]
def vK:List SV->List Ce
 | []=>[]
 |v::vs=>Ey v++vK vs
def pV(sg:nU):Bool:=sg.rs.any (λr=>r.2.any λ | .p| .o false=>true|_=>false)||sg.ps.any λ | .x _=>true|_=>false
def gg:Ct->List Ck->Ct×List Ce×St
 |ct,[]=>(ct,[],[])
 |ct,.o dp::ks=>
  let r:=gg ⟨ct.a+1,nV ct.i+1⟩ ks
  (r.1,.o (nV ct.i) []::r.2.1,(.o (nV ct.i),.ob dp (.a ct.a))::r.2.2)
 |ct,_::ks=>
  let r:=gg ⟨ct.a+1,ct.i⟩ ks
  (r.1,.p (.a ct.a)::r.2.1,r.2.2)
def n_:Ct->List (Bool×List Ck)->Ct×List (Bool×List Ce)×St
 |ct,[]=>(ct,[],[])
 |ct,r::rs=>
  let x:=gg ct r.2
  let y:=n_ x.1 rs
  (y.1,(r.1,x.2.1)::y.2.1,x.2.2++y.2.2)
def DP(a:Nat):Nat->List Ce
 |0=>[]
 |n+1=>.p (.a a)::DP (a+1) n
def tO:Nat->List (Nat×Bool×Nat)->Nat×St
 |a,[]=>(a,[])
 |a,(bx,ag,n)::bs=>
  let r:=tO (a+n) bs
  (r.1,(.x bx,.v ag (DP a n))::r.2)
def tP:List (Bool×List Ce)->SV
 | []=>.un
 | [v]=>.v v.1 v.2
 |vs=>.tp vs
def vL:List Nat->Bool
 | []=>true
 |x::xs=>!(xs.any (Nat.beq x))&&vL xs
def Q9(k:Wk)(d:Nat)(dst:Option Nat)(g:Nat)(sg:nU)(vs:List SV):Option Wk:=
 (bif pV sg then k.eY (vK vs)else some k).bind λk=>
 (k.args vs sg.ps).bind λ(k,xs,bs)=>
 bif vL (bs.map (·.1))then
  let r:=n_ k.ct sg.rs
  let b:=tO r.1.a bs
  let dw:St:=match dst with|some n=>[(.t d n,tP r.2.1)]|none=>[]
  some {r:=k.r,w:=(dw++(r.2.2++b.2))++k.w,ct:=⟨b.1,r.1.i⟩,is:=.cl g xs (b.1-k.ct.a)::k.is}
 else none
def ye(cs:List Ce):List (Nat×List Ce)->Option (List Ce)
 | []=>some cs
 |(off,vs)::ps=>bif Nat.ble (off+vs.length) cs.length then ye (gP cs off vs) ps else none
def parts(d:Nat)(s:bN->SV)(fs:List (Nat×Nat)):List (Nat×Operand)->Option (List (Nat×List Ce))
 | []=>some []
 |(f,x)::ps=>(fs[f]?).bind λo=>(cellsOf (cB d s x)).bind λcs=>bif Nat.beq cs.length o.2 then(parts d s fs ps).bind λl=>some ((o.1,cs)::l)else none
def ml:Ce->Nat
 | .p (.k (.int _ _))=>1
 | .p (.k (.string _))=>2
 | .p (.k (.bool _))=>4
 |_=>0
def Q_(k:Wk)(op:BinOp)(ks:List Nat)(xs ys:List Ce):Option (Wk×Lf):=
 (k.jI xs).bind λ(k,xs)=>(k.jI ys).bind λ(k,ys)=>
  let(k,r):=k.em (.eqs ks) (xs++ys)
  match op with
  | .eql=>some (k,r)
  | .neq=>some (k.em (.un .not) [r])
  |_=>none
def nv(zs:List Ce):Nat->List Ce
 |0=>[]
 |n+1=>zs++nv zs n
def Jw(k:Wk):SV->Option (Wk×Lf×Bool)
 | .v false [.n]=>some (k,.e,true)
 | .v false [.o id []]=>
  match k.get (.o id)with
  | .ob dp x=>bif Nat.beq (id%4) 2 then none else some (k.set (.o id) .un,x,dp)
  |_=>none
 |_=>none
def Wk.gQ(k:Wk):SV->Option Wk
 | .v false [.o j []]=>
  match k.get (.o j)with
  | .fz (.w tk x0 lo) y=>
   match k.get (.o tk)with
   | .tk y0 m=>bif x0.beq y0&&Nat.beq (j%4) 0 then
     let r:=k.em .ll [m,lo,y]
     some ((r.1.set (.o tk) (.tk y0 r.2)).set (.o j) (.fr y))
    else none
   |_=>none
  |_=>none
 |_=>none
def Wk.vM(k:Wk)(b:Bool)(v:SV):Wk:=
 match(bif b then k.gQ v else none)with
 |some k'=>k'
 |none=>k
def AM(sl fz:Bool)(k:Wk):SV->Option (Wk×Lf×Bool)
 | .v false [.n]=>some (k,.e,true)
 | .v false [.p x]=>some (k,x,!sl)
 | .v false [.o id q]=>
  bif sl then
   match k.get (.o id),q with
   | .ob dp x,[]=>bif dp&& !fz then some (k.set (.o id) .un,x,true)else some (k.set (.o id) (.ob false x),x,false)
   | .fz _ x,[]=>some (k,x,false)
   | .fr x,[]=>bif fz then none else some (k.set (.o id) .un,x,true)
   |_,_=>none
  else(k.val (.o id q)).bind λr=>some (r.1,r.2,true)
 |_=>none
def AO(cx:Cx)(k:Wk)(t:Nat)(x:SV)(lo hi:Option SV):Option (Wk×SV):=
 match x with
 | .v false [.o id []]=>
  match k.get (.o id)with
  | .fz (.w tk x0 l0) y=>
   (cx.ty t).bind λti=>(cx.ty ti.el).bind λte=>
   bif Nat.beq ti.kd 3&&Ip l0 then
    (match lo with
     |none=>some (k,[])
     |some l=>(k.one l).bind λ(k,l)=>some (k,[l])).bind λ(k,ls)=>
    (match hi with
     |none=>some (k,[])
     |some h=>(k.one h).bind λ(k,h)=>some (k,[h])).bind λ(k,hs)=>
    let r:=k.em (.sub te.sz lo.isSome hi.isSome) (y::(ls++hs))
    let j:=fE k.ct.i
    some ({(r.1.set (.o j) (.fz (.w tk x0 (ls.headD (.k (.int .i64 0)))) r.2))with ct:=⟨r.1.ct.a,j+1⟩},.v false [.o j []])
   else none
  |_=>none
 |_=>none
def jm(cx:Cx)(df fP:Nat)(d:Nat)(o:Oper)(oi:Nat)(k:Wk):Option Wk:=
 let put (k:Wk) (v:SV):Wk:=match o.dst with|some n=>k.set (.t d n) v|none=>k
 let one (x:Operand):SV:=cB d k.get x
 let lf (r:Wk×Lf):Option Wk:=some (put r.1 (.v false [.p r.2]))
 match o.op with
 | .move x| .assign x=>some (put k (one x))
 | .alloc t=>(cx.ty t).bind λti=>some (put {(k.set (.x k.ct.i) (.v ti.ag ti.zero))with ct:=⟨k.ct.a,k.ct.i+1⟩} (.pt k.ct.i 0))
 | .box t x=>(cx.ty t).bind λti=>(cellsOf (one x)).bind λcs=>
   bif Nat.beq cs.length ti.sz then some (put {(k.set (.x k.ct.i) (.v ti.ag cs))with ct:=⟨k.ct.a,k.ct.i+1⟩} (.pt k.ct.i 0))else none
 | .build t ps=>(cx.ty t).bind λti=>bif ti.ag then(parts d k.get ti.fs ps.toList).bind λl=>(ye ti.zero l).bind λcs=>some (put k (.v true cs))else none
 | .buildSlice t n ps=>(cx.ty t).bind λti=>(cx.ty ti.el).bind λte=>bif Nat.beq ti.kd 3&&Nat.ble (n*te.sz) 65536&&Nat.blt 0 te.sz then
   (parts d k.get ((List.range n).map λi=>(i*te.sz,te.sz)) ps.toList).bind λl=>(ye (nv te.zero n) l).bind λcs=>
    (k.rU (cx.fz df fP oi) (nv te.zero n) cs).bind λ(k,xs,dp)=>
     let(k,y):=k.em (.lit te.sz (bif dp then(nv te.zero n).map (λz=>!gd z)else [])) xs
     let id:=fE k.ct.i
     some (put {(k.set (.o id) (.ob dp y))with ct:=⟨k.ct.a,id+1⟩} (.v false [.o id []]))
   else none
 | .makeSlice t l c=>(cx.ty t).bind λti=>(cx.ty ti.el).bind λte=>(k.one (one l)).bind λ(k,n)=>(k.one (one c)).bind λ(k,m)=>
   (k.jI te.zero).bind λ(k,zs)=>bif Nat.beq ti.kd 3&&Nat.ble te.bytes 65536&&Nat.blt 0 te.sz then
    let(k,y):=k.em .mk (n::m::zs)
    let id:=fE k.ct.i
    some (put {(k.set (.o id) (.ob true y))with ct:=⟨k.ct.a,id+1⟩} (.v false [.o id []]))
   else none
 | .load t a=>(match(bif cx.fz df fP oi then Jv cx k t (one a)else none)with|some r=>some r|none=>loadAt cx (cx.nest df) k t (one a)).bind λ(k,v)=>some (put k v)
 | .store t a x=>(match(bif cx.fz df fP oi then none else Jt cx k t (one a) (one x))with|some k=>some k|none=>storeAt cx k t (one a) (one x)).bind λk=>some (put k .un)
 | .nilCheck x=>match one x with
   | .pt bx off=>some (put k (.pt bx off))
   | .ep id q ix w off=>some (put k (.ep id q ix w off))
   | .fp s ix w off=>some (put k (.fp s ix w off))
   |_=>none
 | .binOp op t x y _=>match one x,one y with
   | .v false [a],.v false [b]=>(cx.ty t).bind λti=>(k.val a).bind λ(k,a)=>(k.val b).bind λ(k,b)=>
     bif Nat.beq ti.kd 4 then lf (k.em (.bb op) [a,b])
     else bif Nat.beq ti.kd 1||Nat.beq ti.kd 2 then lf (k.em (.bin op) [a,b])else none
   | .v true es,.v true bs=>(cx.ty t).bind λti=>bif Nat.beq ti.kd 5&&Nat.beq es.length ti.sz then(Q_ k op (ti.zero.map ml) es bs).bind lf else none
   |_,_=>none
 | .unOp op _ x=>(k.one (one x)).bind λ(k,a)=>lf (k.em (.un op) [a])
 | .convert s t x=>(cx.ty s).bind λsi=>(cx.ty t).bind λti=>(k.one (one x)).bind λ(k,a)=>
   match ti.zero with
   | [.p (.k (.int kk _))]=>bif Nat.beq ti.kd 1&&Nat.beq si.kd 1 then lf (k.em (.Qc kk) [a])else none
   | [.p (.k (.string _))]=>bif Nat.beq ti.kd 2&&Nat.beq si.kd 3 then(cx.ty si.el).bind λte=>
     match te.zero with
     | [.p (.k (.int .u8 _))]=>bif Nat.beq te.kd 1 then lf (k.em .str [a])else none
     |_=>none
    else none
   |_=>none
 | .slice t x lo hi mx=>match(bif mx.isSome then none else AO cx k t (one x) (lo.map one) (hi.map one))with
  |some (k,v)=>some (put k v)
  |none=>(cx.ty t).bind λti=>(k.eY (Ey (one x))).bind λk=>(k.one (one x)).bind λ(k,a)=>
   match mx with
   |some _=>none
   |none=>
   (match lo with
    |none=>some (k,[])
    |some l=>(k.one (one l)).bind λ(k,l)=>some (k,[l])).bind λ(k,ls)=>
   (match hi with
    |none=>some (k,[])
    |some h=>(k.one (one h)).bind λ(k,h)=>some (k,[h])).bind λ(k,hs)=>
   bif Nat.beq ti.kd 3 then(cx.ty ti.el).bind λte=>lf (k.em (.sub te.sz lo.isSome hi.isSome) (a::(ls++hs)))
   else bif Nat.beq ti.kd 2 then lf (k.em (.AH lo.isSome hi.isSome) (a::(ls++hs)))else none
 | .fieldAddr t x f=>(fieldAt cx t f (one x)).bind λv=>some (put k v)
 | .indexAddr t x i=>(indexAt cx k t (one x) (one i)).bind λ(k,v)=>some (put k v)
 | .index t x i=>(cx.ty t).bind λti=>(k.one (one x)).bind λ(k,a)=>(k.one (one i)).bind λ(k,i)=>
   bif Nat.beq ti.kd 2 then lf (k.em .idx [a,i])else none
 | .extract x i=>match one x with
   | .tp vs=>(vs[i]?).bind λv=>some (put k (.v v.1 v.2))
   |_=>none
 | .makeFunc (.func f) first yf=>bif first.isEmpty then
   (yf.toList.mapM λx=>match one x with| .pt b 0=>some b|_=>none).bind λbs=>some (put k (.cl f bs))else none
 | .call c=>match c.callee,c.args.toList with
   | .builtin .len,[x]=>((c.argTypes[0]?).bind cx.ty).bind λti=>(k.one (one x)).bind λ(k,a)=>
     bif Nat.beq ti.kd 3 then lf (k.em .len [a])else bif Nat.beq ti.kd 2 then lf (k.em .lens [a])else none
   | .builtin .max,[x,y]=>(k.one (one x)).bind λ(k,a)=>(k.one (one y)).bind λ(k,b)=>lf (k.em .mx [a,b])
   | .builtin .min,[x,y]=>(k.one (one x)).bind λ(k,a)=>(k.one (one y)).bind λ(k,b)=>lf (k.em .mn [a,b])
   | .builtin .append,[x,y]=>match c.argTypes.toList with
    | [t,tx]=>(cx.ty t).bind λti=>(cx.ty tx).bind λtj=>(cx.ty ti.el).bind λte=>
     bif Nat.beq ti.kd 3&&Nat.beq tj.kd 3&&Nat.ble te.bytes 32768&&Nat.blt 0 te.sz then
     let sl:=te.zero.any gd
     (Jw k (one x)).bind λ(k,a,dp)=>(AM sl (cx.fz df fP oi) (k.vM (sl&& !cx.fz df fP oi) (one y)) (one y)).bind λ(k,b,uZ)=>
     let(k,r):=k.em (.app (!sl) te.sz) [a,b]
     let id:=fE k.ct.i
     some (put {(k.set (.o id) (.ob (dp&&uZ) r))with ct:=⟨k.ct.a,id+1⟩} (.v false [.o id []]))
     else none
    |_=>none
   | .value (.func g),xs=>(cx.sg g).bind λsg=>Q9 k d o.dst g sg (xs.map one)
   |_,_=>none
 |_=>none
def Ez:List Ce->List bN
 | []=>[]
 | .o id _::cs=>.o id::Ez cs
 |_::cs=>Ez cs
def afr:SV->List bN
 | .v _ cs=>Ez cs
 | .pt bx _=>[.x bx]
 | .ep id _ _ _ _=>[.o id]
 | .cl _ bs=>bs.map .x
 | .tp vs=>vs.flatMap λv=>Ez v.2
 | .fz (.w tk _ _) _=>[.o tk]
 |_=>[]
def vN(o:Oper):List Nat:=o.op.operands.toList.filterMap λ | .tmp t=>some t|_=>none
def deep(s:St):List bN->List bN
 | []=>[]
 |r::rs=>afr (s.get r)++deep s rs
def afs:Op->Bool
 | .move _| .assign _| .fieldAddr .. | .build .. | .box .. | .makeFunc .. | .nilCheck _| .alloc _| .extract ..=>false
 |_=>true
def aft:Op->Bool
 | .load .. | .call _=>true
 |_=>false
def Jx:List bN->List bN
 | []=>[]
 | .o n::rs=>.o n::Jx rs
 |_::rs=>Jx rs
def Jy:List bN->List bN
 | []=>[]
 | .x n::rs=>.x n::Jy rs
 |_::rs=>Jy rs
def EA(d:Nat)(s:St)(o:Oper):List bN:=
 let ts:=(vN o).map (bN.t d)
 bif afs o.op then
  let m:=deep s ts
  let b:=deep s (Jy m)
  ts++m++b++bif aft o.op then deep s (Jx (m++b))else []
 else ts
def St.only(s:St):List bN->St
 | []=>[]
 |r::rs=>(r,s.get r)::St.only s rs
def St.fS(s:St):St->St
 | []=>s
 |(r,v)::w=>(St.fS s w).set r v
structure Tr where
 rd:List bN
 wr:List bN
def EB(xs ys:List bN):Bool:=xs.any λx=>ys.any x.beq
def vO(a b:Tr):Bool:=!EB a.wr b.rd&& !EB a.wr b.wr&& !EB a.rd b.wr
def ru:List Nat->List Oper->List Nat
 |acc,[]=>acc
 |acc,o::os=>ru (acc++[o.after.toList.foldl (λs e=>bif Region.binds .any e&&Nat.blt e.on acc.length then s|||(2^e.on)|||(acc.getD e.on 0)else s) 0]) os
def vP:Nat->List Oper->Bool
 |_,[]=>true
 |i,o::os=>o.after.toList.all (λe=>!Region.binds .any e||Nat.blt e.on i)&&vP (i+1) os
def xc(nt:Nat):Code->Bool
 | .region _ ops _=>ops.toList.all λo=>match o.dst with|some n=>Nat.blt n nt|none=>true
 | .seq a b=>xc nt a&&xc nt b
 | .cond _ a b=>xc nt a&&xc nt b
 | .block _ a=>xc nt a
 | .loop a=>xc nt a
 | .scope a=>xc nt a
 |_=>true
def EC(bj:Nat)(t:Tr):Nat->List Tr->Bool
 |_,[]=>true
 |i,u::us=>(Nat.testBit bj i||vO u t)&&EC bj t (i+1) us
def vQ:List Tr->List Tr->List Nat->Bool
 |done,t::ts,b::bs=>EC b t 0 done&&vQ (done++[t]) ts bs
 |_,_,_=>true
def Jz(s:SV):Option Lf:=
 match s with
 | .v false [.p x]=>some x
 |_=>none
inductive Dec where
 |nil
 |is (b:Bool)
 |ask (n:Nat)
 |no
def qU(fs:kl)(s:SV):Dec:=
 match s with
 | .tp _=>.nil
 |s=>
 match Jz s with
 |some (.k (.bool b))=>.is b
 |some (.a n)=>match fact fs n with
  |some b=>.is b
  |none=>.ask n
 |_=>.no
def wrap:List Ew->PL->PL
 | [],k=>k
 |i::is,k=>wrap is (.ins i k)
abbrev KP:=Nat->St->Ct->kl->Option PL
def ED(cx:Cx)(d:Nat)(s:St)(o:Oper):Option (Nat×List SV):=
 match o.op with
 | .call c=>match c.callee with
  | .value x=>match cB d s.get x with
   | .cl g bs=>match cx.sg g with
    |some _=>none
    |none=>some (g,c.args.toList.map (cB d s.get)++bs.map λb=>.pt b 0)
   |_=>none
  |_=>none
 |_=>none
abbrev pd:=Nat->Nat->List SV->Nat->St->Ct->kl->(List SV->KP)->Option PL
def u9:List SV->Option (List (Bool×List Ce))
 | []=>some []
 | .v ag cs::vs=>(u9 vs).bind λl=>some ((ag,cs)::l)
 |_=>none
def qF:List Ew->Nat
 | []=>0
 | .pr _ _::is=>qF is+1
 | .cl _ _ m::is=>qF is+m
def Lf.jF(a:Nat):Lf->Bool
 | .a n=>Nat.blt n a
 |_=>true
def rV:Nat->List Ew->Bool
 |_,[]=>true
 |e,.pr _ xs::is=>Nat.blt 0 e&&xs.all (Lf.jF (e-1))&&rV (e-1) is
 |e,.cl _ xs m::is=>Nat.ble m e&&xs.all (Lf.jF (e-m))&&rV (e-m) is
def z_(d:Nat)(ops:Array Oper)(o:Oper):List bN:=
 match o.guard with
 |none=>[]
 |some (j,_)=>match(ops[j]?).bind (·.dst)with
  |some g=>[.t d g]
  |none=>[]
def vR(d:Nat)(s:St)(o:Oper)(fs:kl):Option (Dec×SV×SV):=
 match o.op with
 | .pick c a b=>some (qU fs (cB d s.get c),cB d s.get a,cB d s.get b)
 |_=>none
abbrev Rec:=List Tr->Nat->St->Ct->kl->Option PL
def EE(d:Nat)(ops:Array Oper)(o:Oper)(rc:Rec)(tr:List Tr)(lv:Nat)(s:St)(ct:Ct)(fs:kl):Option PL:=
 match o.dst with
 |some n=>rc (tr++[⟨z_ d ops o,[.t d n]⟩]) lv (s.set (.t d n) (.tp [])) ct fs
 |none=>rc (tr++[⟨z_ d ops o,[]⟩]) lv s ct fs
def yg(d:Nat)(ops:Array Oper)(o:Oper)(rc:Rec)(tr:List Tr)(lv:Nat)(s:St)(ct:Ct)(fs:kl)(v:SV):Option PL:=
 match o.dst with
 |some n=>rc (tr++[⟨z_ d ops o++(vN o).map (bN.t d),[.t d n]⟩]) lv (s.set (.t d n) v) ct fs
 |none=>none
def EF(d:Nat)(o:Oper)(rc:Rec)(tr:List Tr):List SV->KP:=λrs lv s ct fs=>
 match o.dst,rs with
 |none,_=>rc tr lv s ct fs
 |some n,[v]=>rc tr lv (s.set (.t d n) v) ct fs
 |some n,[]=>rc tr lv (s.set (.t d n) .un) ct fs
 |some n,rs=>(u9 rs).bind λvs=>rc tr lv (s.set (.t d n) (.tp vs)) ct fs
def doO(cx:Cx)(dW:pd)(df fP d:Nat)(ops:Array Oper)(draw:Bool)(o:Oper)(i:Nat)(rc:Rec)(tr:List Tr)(lv:Nat)(s:St)(ct:Ct)(fs:kl):Option PL:=
 match vR d s o fs with
 |some (dc,a,b)=>
  match dc with
  | .is true=>yg d ops o rc tr lv s ct fs a
  | .is false=>yg d ops o rc tr lv s ct fs b
  | .ask n=>(yg d ops o rc tr lv s ct ((n,true)::fs) a).bind λx=>(yg d ops o rc tr lv s ct ((n,false)::fs) b).bind λy=>some (.ite n x y)
  | .nil| .no=>some (.rQ (df*100000000+2000000+fP*1000+i) [s])
 |none=>
  match ED cx d s o with
  |some (g,vs)=>
   bif draw then some (.rQ (df*100000000+4000000+fP*1000+i) [s])else
   dW (d+1) g vs lv s ct fs (EF d o rc tr)
  |none=>
   match jm cx df fP d o i ⟨s.only (EA d s o),[],ct,[]⟩with
   |none=>some (.rQ (df*100000000+1000000+fP*1000+i) [s.only (EA d s o)])
   |some k=>
    bif Nat.beq k.ct.a (ct.a+qF k.is)&&Nat.ble ct.i k.ct.i&&rV k.ct.a k.is then
     (rc (tr++[⟨z_ d ops o++EA d s o,k.w.map (·.1)⟩]) lv (s.fS k.w) k.ct fs).bind λp=>some (wrap k.is p)
    else none
def AP(cx:Cx)(dW:pd)(df fP d:Nat)(ops:Array Oper)(draw:Bool)(o:Oper)(i:Nat)(rc:Rec)(tr:List Tr)(lv:Nat)(s:St)(ct:Ct)(fs:kl):Option PL:=
 let run:=doO cx dW df fP d ops draw o i rc tr lv s ct
 let skip:=EE d ops o rc tr lv s ct
 match o.guard with
 |none=>run fs
 |some (j,want)=>
  match(ops[j]?).bind (·.dst)with
  |none=>none
  |some g=>
   match qU fs (s.get (.t d g))with
   | .nil=>skip fs
   | .is b=>bif b==want then run fs else skip fs
   | .ask n=>(bif true==want then run ((n,true)::fs)else skip ((n,true)::fs)).bind λx=>
     (bif false==want then run ((n,false)::fs)else skip ((n,false)::fs)).bind λy=>some (.ite n x y)
   | .no=>some (.rQ (df*100000000+3000000+fP*1000+i) [s])
def tQ(cx:Cx)(dW:pd)(df fP d:Nat)(ops:Array Oper)(draw:Bool)(fin:List Tr->KP):
  List Oper->Nat->Rec
 | [],_=>fin
 |o::os,i=>AP cx dW df fP d ops draw o i (tQ cx dW df fP d ops draw fin os (i+1))
inductive Ex where
 |normal
 |exit (id:Nat)
 |ret
def vS:nh->nh->Bool
 | [],[]=>true
 |(x,w,j)::p,(x',w',j')::q=>x.beq x'&&Nat.beq w w'&&Nat.beq j j'&&vS p q
 |_,_=>false
def Ce.beq:Ce->Ce->Bool
 | .p x,.p y=>x.beq y
 | .o i s,.o j t=>Nat.beq i j&&vS s t
 | .n,.n=>true
 | .d,.d=>true
 |_,_=>false
def vT:List Ce->List Ce->Bool
 | [],[]=>true
 |c::cs,e::es=>c.beq e&&vT cs es
 |_,_=>false
def yh:List Nat->List Nat->Bool
 | [],[]=>true
 |c::cs,e::es=>Nat.beq c e&&yh cs es
 |_,_=>false
def yi:List (Bool×List Ce)->List (Bool×List Ce)->Bool
 | [],[]=>true
 |(a,cs)::vs,(b,es)::us=>(a==b)&&vT cs es&&yi vs us
 |_,_=>false
def Pv.beq:Pv->Pv->Bool
 | .z,.z=>true
 | .w t x l,.w u y m=>Nat.beq t u&&x.beq y&&l.beq m
 |_,_=>false
def SV.beq:SV->SV->Bool
 | .un,_=>true
 | .v a cs,.v b es=>(a==b)&&vT cs es
 | .pt a b,.pt c d=>Nat.beq a c&&Nat.beq b d
 | .ep i p x w j,.ep i' q x' w' j'=>Nat.beq i i'&&vS p q&&x.beq x'&&Nat.beq w w'&&Nat.beq j j'
 | .fp s x w j,.fp s' x' w' j'=>s.beq s'&&x.beq x'&&Nat.beq w w'&&Nat.beq j j'
 | .tp vs,.tp us=>yi vs us
 | .cl f bs,.cl g cs=>Nat.beq f g&&yh bs cs
 | .ob a x,.ob b y=>(a==b)&&x.beq y
 | .fz p x,.fz q y=>p.beq q&&x.beq y
 | .tk x m,.tk y n=>x.beq y&&m.beq n
 | .fl x,.fl y=>x.beq y
 | .fr x,.fr y=>x.beq y
 |_,_=>false
def pW(d:Nat)(s:St)(n:Nat)(bx:Bool):bN:=
 bif bx then match s.get (.t d n)with| .pt b _=>.x b|_=>.t d n else .t d n
def JA(d:Nat)(s:St)(r:bN):Js->Bool
 | []=>false
 |(_,_,.rows _)::js=>JA d s r js
 |(n,bx,_)::js=>(pW d s n bx).beq r||JA d s r js
def AQ:Ct->List Ce->List Cj->Ct×List Ce×St×List Nat
 |ct,_,[]=>(ct,[],[],[])
 |ct,cs,j::js=>
  let c:=cs.headD .d
  match j with
  | .k=>let(ct,es,w,ds):=AQ ct cs.tail js;(ct,c::es,w,ds)
  | .p=>let(iM,es,w,ds):=AQ ⟨ct.a+1,ct.i⟩ cs.tail js;(iM,.p (.a ct.a)::es,w,ds)
  | .o dp=>
   let(iM,es,w,ds):=AQ ⟨ct.a+1,fE ct.i+1⟩ cs.tail js
   (iM,.o (fE ct.i) []::es,(.o (fE ct.i),.ob dp (.a ct.a))::w,match c with| .o id _=>id::ds|_=>ds)
  | .d=>let(ct,es,w,ds):=AQ ct cs.tail js;(ct,.d::es,w,match c with| .o id _=>id::ds|_=>ds)
def Q':SV->Option Nat
 | .fz (.w t _ _) _=>some t
 |_=>none
def AR(s:St)(cs:List Ce):Ct->List (Nat×Bool)->Ct×St×List Nat
 |ct,[]=>(ct,[],[])
 |ct,(j,dp)::js=>
  match cs[j]? with
  |some (.o id _)=>
   match Q' (s.get (.o id))with
   |some t=>
    match s.get (.o t)with
    | .tk x _=>let(iM,w,ds):=AR s cs ⟨ct.a+1,ct.i⟩ js;(iM,(.o t,.tk x (.a ct.a))::w,t::ds)
    |_=>AR s cs ct js
   |none=>let(iM,w,ds):=AR s cs ⟨ct.a+1,ct.i⟩ js;(iM,(.o id,.ob dp (.a ct.a))::w,id::ds)
  |_=>AR s cs ct js
def pe:SV->List Ce
 | .v _ cs=>cs
 |_=>[]
def EG(d:Nat)(s:St):Ct->Js->Ct×St×St×List Nat
 |ct,[]=>(ct,[],[],[])
 |ct,(_,_,.drop)::js=>EG d s ct js
 |ct,(n,bx,.aH ag cj)::js=>
  let r:=pW d s n bx
  let(ct,es,w,ds):=AQ ct (pe (s.get r)) cj
  let(ct,ps,ws,dds):=EG d s ct js
  (ct,(r,.v ag es)::ps,w++ws,ds++dds)
 |ct,(n,bx,.rows rj)::js=>
  let(ct,w,ds):=AR s (pe (s.get (pW d s n bx))) ct rj
  let(ct,ps,ws,dds):=EG d s ct js
  (ct,ps,w++ws,ds++dds)
def JB(d:Nat)(s0:St)(js:Js)(ds:List Nat):St->St
 | []=>[]
 |(r,v)::s=>
  let gone:=match r with| .o id=>ds.any (Nat.beq id)|_=>false
  bif JA d s0 r js||gone then JB d s0 js ds s else(r,v)::JB d s0 js ds s
structure Head where
 s0:St
 kept:St
 new:St
 own:St
 c0:Ct
 ct:Ct
 js:Js
def Head.st(h:Head):St:=h.kept++h.own++h.new
def EH(s:St):List Ce->List Cj->List (Nat×Bool)
 | .o id []::cs,.p::js=>(id,true)::EH s cs js
 | .o id []::cs,.o false::js=>(id,false)::EH s cs js
 |_::cs,_::js=>EH s cs js
 |_,_=>[]
def EI(cs:List Ce):List (Nat×Bool)->List (Nat×Bool)
 | []=>[]
 |(j,dp)::js=>
  match cs[j]? with
  |some (.o id _)=>bif dp then EI cs js else(id,false)::EI cs js
  |_=>EI cs js
def vU(d:Nat)(s0 s:St):Js->List (Nat×Bool)
 | []=>[]
 |(_,_,.drop)::js=>vU d s0 s js
 |(n,bx,.aH _ cj)::js=>EH s (pe (s.get (pW d s0 n bx))) cj++vU d s0 s js
 |(n,bx,.rows rj)::js=>EI (pe (s0.get (pW d s0 n bx))) rj++vU d s0 s js
def EJ(s:St):List (Nat×Bool)->List Nat
 | []=>[]
 |(id,all)::l=>bif all then(match s.get (.o id)with| .ob _ _=>id::EJ s l|_=>EJ s l)else EJ s l
def DQ(d:Nat)(s:St)(ct:Ct)(js:Js):Head:=
 let(iM,ps,ws,ds):=EG d s ct js
 {s0:=s,kept:=JB d s js (EJ s (vU d s s js)++ds) s,new:=ps,own:=ws,c0:=ct,ct:=iM,js}
def tR(s:St):List (Nat×Bool)->St
 | []=>s
 |(id,all)::l=>
  match s.get (.o id)with
  | .ob _ x=>tR (s.set (.o id) (bif all then .fz .z x else .ob false x)) l
  |_=>tR s l
abbrev Ren:=List (Nat×Option Nat)
def Ra(s:St):List Ce->List Ce->List Cj->Option (List Lf×Ren)
 | [],[],[]=>some ([],[])
 |c::cs,h::hs,j::js=>
  (Ra s cs hs js).bind λ(xs,rn)=>
  match j with
  | .k| .d=>some (xs,rn)
  | .p=>match c with
   | .p x=>some (x::xs,rn)
   | .n=>some (.e::xs,rn)
   | .o id []=>match s.get (.o id)with
    | .fz _ x=>some (x::xs,rn)
    |_=>none
   |_=>none
  | .o dp=>match h with
   | .o i []=>match c with
    | .n=>some (.e::xs,(i,none)::rn)
    | .o id []=>match s.get (.o id)with
     | .ob _ x=>some (x::xs,(i,some id)::rn)
     |_=>none
    |_=>none
   |_=>none
 |_,_,_=>none
def AU(s0 s:St)(cs:List Ce):List (Nat×Bool)->Option (List Lf)
 | []=>some []
 |(j,dp)::js=>
  match cs[j]? with
  |some (.o id _)=>
   match Q' (s0.get (.o id))with
   |some t=>
    match s0.get (.o t)with
    | .tk _ _=>match s.get (.o t)with
     | .tk _ m=>(AU s0 s cs js).bind λxs=>some (m::xs)
     |_=>none
    |_=>AU s0 s cs js
   |none=>match s.get (.o id)with
    | .ob _ x=>(AU s0 s cs js).bind λxs=>some (x::xs)
    |_=>none
  |_=>AU s0 s cs js
def EK(d:Nat)(s0 s:St):St->Js->Option (List Lf×Ren)
 |ps,(_,_,.drop)::js=>EK d s0 s ps js
 |(r',.v ag hs)::ps,(n,bx,.aH xb cj)::js=>
  (Ra s (pe (s.get (pW d s0 n bx))) hs cj).bind λ(xs,rn)=>(EK d s0 s ps js).bind λ(ys,rm)=>some (xs++ys,rn++rm)
 |ps,(n,bx,.rows rj)::js=>
  (AU s0 s (pe (s0.get (pW d s0 n bx))) rj).bind λxs=>(EK d s0 s ps js).bind λ(ys,rm)=>some (xs++ys,rm)
 | [],[]=>some ([],[])
 |_,_=>none
def yj(a:Nat):nh->Bool
 | []=>true
 |(x,_,_)::q=>x.jF a&&yj a q
def Ce.jF(a i:Nat):Ce->Bool
 | .p x=>x.jF a
 | .o id q=>Nat.blt id i&&yj a q
 |_=>true
def pX(a i:Nat):List Ce->Bool
 | []=>true
 |c::cs=>c.jF a i&&pX a i cs
def yk(a i:Nat):List (Bool×List Ce)->Bool
 | []=>true
 |v::vs=>pX a i v.2&&yk a i vs
def Pv.jF(a i:Nat):Pv->Bool
 | .z=>true
 | .w t x l=>Nat.blt t i&&x.jF a&&l.jF a
def SV.jF(a i:Nat):SV->Bool
 | .un=>true
 | .v _ cs=>pX a i cs
 | .pt b _=>Nat.blt b i
 | .ep id q x _ _=>Nat.blt id i&&yj a q&&x.jF a
 | .fp s x _ _=>s.jF a&&x.jF a
 | .tp vs=>yk a i vs
 | .cl _ bs=>bs.all λb=>Nat.blt b i
 | .ob _ x=>x.jF a
 | .fz p x=>p.jF a i&&x.jF a
 | .tk x m=>x.jF a&&m.jF a
 | .fl x=>x.jF a
 | .fr x=>x.jF a
def nW:Ren->Nat->Option (Option Nat)
 | [],_=>none
 |(j,x)::rn,i=>bif Nat.beq j i then some x else nW rn i
def nw:Ren->Nat->Option Nat
 | [],_=>none
 |(j,some x)::rn,i=>bif Nat.beq x i then some j else nw rn i
 |(_,none)::rn,i=>nw rn i
def oa(a0:Nat)(xs:List Lf)(n:Nat)(x:Lf):Bool:=
 Nat.ble a0 n&&(match xs[n-a0]? with|some y=>y.beq x|none=>false)
def JC(s:St)(a0 i0:Nat)(xs:List Lf)(rn:Ren)(c h:Ce):Bool:=
 (h.beq c&&h.jF a0 i0)||
 match h,c with
 | .p (.a n),.p x=>oa a0 xs n x
 | .p (.a n),.n=>oa a0 xs n .e
 | .p (.a n),.o id []=>(match s.get (.o id)with| .fz _ x=>oa a0 xs n x|_=>false)
 | .o j [],.n=>Nat.ble i0 j&&(match nW rn j with|some none=>true|_=>false)
 | .o j [],.o id []=>Nat.ble i0 j&&(match nW rn j with|some (some k)=>Nat.beq k id|_=>false)
 | .d,_=>true
 |_,_=>false
def pY(s:St)(a0 i0:Nat)(xs:List Lf)(rn:Ren):List Ce->List Ce->Bool
 | [],[]=>true
 |c::cs,h::hs=>JC s a0 i0 xs rn c h&&pY s a0 i0 xs rn cs hs
 |_,_=>false
def ym(s:St)(a0 i0:Nat)(xs:List Lf)(rn:Ren):St->Bool
 | []=>true
 |(r,.v ag hs)::ps=>
  (match r with| .o _=>false| .x b=>Nat.blt b i0| .t _ _=>true)&&
  (match s.get r with| .v xb cs=>(ag==xb)&&pY s a0 i0 xs rn cs hs|_=>false)&&ym s a0 i0 xs rn ps
 |_::_=>false
def vV(s:St)(a0 i0:Nat)(xs:List Lf)(rn:Ren):St->Bool
 | []=>true
 |(.o j,.ob dp (.a n))::ps=>
  (match nW rn j with
   |some (some id)=>Nat.ble i0 j&&(match s.get (.o id)with| .ob uZ x=>(dp==uZ)&&oa a0 xs n x|_=>false)
   |some none=>Nat.ble i0 j&&oa a0 xs n .e
   |none=>Nat.blt j i0&&(match nw rn j with|none=>true|some _=>false)&&(match s.get (.o j)with| .ob uZ x=>(dp==uZ)&&oa a0 xs n x|_=>false))&&
  vV s a0 i0 xs rn ps
 |(.o j,.tk x (.a n))::ps=>
  (Nat.blt j i0&&(match nw rn j with|none=>true|some _=>false)&&x.jF a0&&(match s.get (.o j)with| .tk y m=>x.beq y&&oa a0 xs n m|_=>false))&&
  vV s a0 i0 xs rn ps
 |_::_=>false
def SV.isU:SV->Bool
 | .un=>true
 |_=>false
def Rb(i0:Nat)(rn:Ren):bN->Bool
 | .o id=>Nat.blt id i0&&(match nw rn id with|none=>true|some _=>false)
 | .x b=>Nat.blt b i0
 | .t _ _=>true
def EL(s:St)(a0 i0:Nat)(rn:Ren):St->Bool
 | []=>true
 |(r,v)::h=>(v.isU||(v.beq (s.get r)&&v.jF a0 i0&&Rb i0 rn r))&&EL s a0 i0 rn h
def tS(i0 i1:Nat)(all:Ren):Ren->Bool
 | []=>true
 |(j,x)::rn=>Nat.ble i0 j&&Nat.blt j i1&&Nat.beq (j%2) 0&&(match x with|none=>true|some id=>!Nat.beq (id%4) 2&&(match nw all id with|some k=>Nat.beq k j|none=>false))&&tS i0 i1 all rn
def JD(h:Head)(s:St)(xs:List Lf)(rn:Ren):Bool:=
 Nat.beq (h.c0.a+xs.length) h.ct.a&&Nat.blt 0 h.ct.i&&Nat.ble h.c0.i h.ct.i&&tS h.c0.i h.ct.i rn rn&&EL s h.c0.a h.c0.i rn h.kept&&vV s h.c0.a h.c0.i xs rn h.own&&ym s h.c0.a h.c0.i xs rn h.new
def hX(d:Nat)(h:Head)(s:St):Option (List Lf):=
 let s1:=tR s (vU d h.s0 s h.js)
 (EK d h.s0 s1 h.new h.js).bind λ(xs,rn)=>bif JD h s1 xs rn then some xs else none
abbrev KE:=Ex->KP
def rW(d:Nat):St->St
 | []=>[]
 |(.t e n,v)::s=>bif Nat.ble d e then rW d s else(.t e n,v)::rW d s
 |x::s=>x::rW d s
def iO(s:St)(cs:List Ce):List (Nat×Bool)->St
 | []=>s
 |(j,all)::js=>
  match cs[j]? with
  |some (Ce.o id _)=>match s.get (.o id)with
   | .ob _ x=>iO (s.set (.o id) (bif all then .fz .z x else .ob false x)) cs js
   |_=>iO s cs js
  |_=>iO s cs js
def jT(d:Nat)(s:St):Js->St
 | []=>s
 |(n,bx,.rows js)::l=>
  let cs:=pe (s.get (pW d s n bx))
  jT d (iO s cs js) l
 |_::l=>jT d s l
def iZ(s:St)(ct:Ct)(cs:List Ce):List (Nat×Bool)->St×Ct
 | []=>(s,ct)
 |(j,_)::js=>
  match cs[j]? with
  |some (Ce.o id [])=>match s.get (.o id)with
   | .ob true x=>bif Nat.beq (id%2) 0 then iZ ((s.set (.o id) (.fz (.w (nj ct.i) x (.k (.int .i64 0))) x)).set (.o (nj ct.i)) (.tk x x)) ⟨ct.a,nj ct.i+1⟩ cs js else iZ s ct cs js
   |_=>iZ s ct cs js
  |_=>iZ s ct cs js
def j7(d:Nat)(s:St)(ct:Ct):Js->St×Ct
 | []=>(s,ct)
 |(n,bx,.rows js)::l=>
  let r:=iZ s ct (pe (s.get (pW d s n bx))) js
  j7 d r.1 r.2 l
 |_::l=>j7 d s ct l
def Rc(d:Nat)(h:Head)(lv tag:Nat):KP:=λlv2 s' iM jU=>
 match hX d h s' with
 |some xs=>some (.go (lv2-lv-1) xs)
 |none=>some (.rQ tag [h.st,s'])
def AV(d:Nat)(h:Head)(lv tag:Nat)(K:KE):KE:=λe=>
 match e with
 | .normal=>Rc d h lv tag
 |e=>K e
def EM(id:Nat)(K:KE):KE:=λe=>
 match e with
 | .exit i=>bif Nat.beq i id then K .normal else K (.exit i)
 |e=>K e
def Rd(df id:Nat)(ops:Array Oper)(draw:Bool)(k:KP):List Tr->KP:=λtr lv s ct fs=>
 bif draw then
  bif vQ [] tr (ru [] ops.toList)&&vP 0 ops.toList then k lv s ct fs else some (.rQ (df*100000000+100000+id) [])
 else k lv s ct fs
def EN(tag:Nat)(v:SV)(cx cy:kl->Option PL)(s:St)(fs:kl):Option PL:=
 match qU fs v with
 | .is b=>bif b then cx fs else cy fs
 | .ask n=>(cx ((n,true)::fs)).bind λp=>(cy ((n,false)::fs)).bind λq=>some (.ite n p q)
 | .nil| .no=>some (.rQ tag [s])
def JE(cx:Cx)(df d id:Nat)(s:St):St:=match cx.rT df 4 id with|none=>s|some js=>jT d s js
def EO(cx:Cx)(df d id:Nat)(s:St)(ct:Ct):St×Ct:=match cx.rT df 5 id with|none=>(s,ct)|some js=>j7 d s ct js
def comp(cx:Cx)(dW:pd)(df d:Nat):Code->Nat->Nat->St->Ct->kl->KE->Option PL
 | .skip,_,lv,s,ct,fs,K=>K .normal lv s ct fs
 | .label _,_,lv,s,ct,fs,K=>K .normal lv s ct fs
 | .seq a b,_,lv,s,ct,fs,K=>
  comp cx dW df d a 0 lv s ct fs λe=>
   match e with
   | .normal=>λlv s ct fs=>comp cx dW df d b 0 lv s ct fs K
   |e=>K e
 | .region id ops draw,_,lv,s0,ct0,fs,K=>
  let r5:=EO cx df d id (JE cx df d id s0) ct0
  let s:=r5.1
  let ct:=r5.2
  match cx.rT df 1 id with
  |none=>tQ cx dW df id d ops draw (Rd df id ops draw (K .normal)) ops.toList 0 [] lv s ct fs
  |some js=>
   let h:=DQ d s ct js
   (K .normal lv h.st h.ct fs).bind λk=>
    (tQ cx dW df id d ops draw (Rd df id ops draw (Rc d h lv (df*100000000+200000+id))) ops.toList 0 [] (lv+1) s ct fs).bind λb=>some (.join k b)
 | .cond c x y,_,lv,s,ct,fs,K=>
  let key:=match c with| .tmp t=>t|_=>0
  match cx.rT df 2 key with
  |none=>EN (df*100000000+5000000+key) (cB d s.get c) (λfs=>comp cx dW df d x 0 lv s ct fs K) (λfs=>comp cx dW df d y 0 lv s ct fs K) s fs
  |some js=>
   let h:=DQ d s ct js
   (K .normal lv h.st h.ct fs).bind λk=>
    (EN (df*100000000+5000000+key) (cB d s.get c) (λfs=>comp cx dW df d x 0 (lv+1) s ct fs (AV d h lv (df*100000000+300000+key) K))
     (λfs=>comp cx dW df d y 0 (lv+1) s ct fs (AV d h lv (df*100000000+300000+key) K)) s fs).bind λb=>some (.join k b)
 | .block id body,_,lv,s,ct,fs,K=>
  match cx.rT df 3 id with
  |none=>comp cx dW df d body id lv s ct fs (EM id K)
  |some js=>
   let h:=DQ d s ct js
   (K .normal lv h.st h.ct fs).bind λk=>
    (comp cx dW df d body id (lv+1) s ct fs (EM id (AV d h lv (df*100000000+400000+id) K))).bind λb=>some (.join k b)
 | .loop body,vW,lv,s,ct,fs,K=>
  match cx.rT df 0 vW with
  |none=>some (.rQ (df*100000000+500000+vW) [s])
  |some js=>
   let h:=DQ d s ct js
   match hX d h s with
   |none=>some (.rQ (df*100000000+600000+vW) [h.st,s])
   |some xs=>(comp cx dW df d body 0 (lv+1) h.st h.ct fs (AV d h lv (df*100000000+700000+vW) K)).bind λb=>some (.loop xs b)
 | .exit id,_,lv,s,ct,fs,K=>K (.exit id) lv s ct fs
 | .ret,_,lv,s,ct,fs,K=>K .ret lv s ct fs
 |_,_,_,_,_,_,_=>some (.rQ (df*100000000+6000000) [])
def results(cx:Cx)(d:Nat)(s:St):List ResultVar->Option (List SV)
 | []=>some []
 | .tmp t::rs=>(results cx d s rs).bind λvs=>some (s.get (.t d t)::vs)
 | .cell a t::rs=>(cx.ty t).bind λti=>
  match s.get (.t d a)with
  | .pt bx off=>match s.get (.x bx)with
   | .v _ cs=>bif Nat.ble (off+ti.sz) cs.length then(results cx d s rs).bind λvs=>some (.v ti.ag ((cs.drop off).take ti.sz)::vs)else none
   |_=>none
  |_=>none
def vX(d:Nat)(s:St):Nat->List SV->St
 |_,[]=>s
 |i,v::vs=>vX d (s.set (.t d i) v) (i+1) vs
def EP(cx:Cx):Nat->pd
 |0=>λ_ _ _ _ _ _ _ _=>none
 |n+1=>λd g vs lv s ct fs k=>
  (cx.fn g).bind λfn=>fn.body.bind λc=>
   bif Nat.ble vs.length fn.ntmps&&xc fn.ntmps c then
    comp cx (EP cx n) g d c 0 lv (vX d (rW d s) 0 vs) ct fs λe lv s ct fs=>
     match e with
     | .exit _=>none
     |_=>(results cx d s fn.results.toList).bind λrs=>k rs lv (rW d s) ct fs
   else none
def EQ:List Ce->List Ck->List (Nat×Bool)
 | .o id _::cs,.p::ks=>(id,true)::EQ cs ks
 | .o id _::cs,.o false::ks=>(id,false)::EQ cs ks
 |_::cs,_::ks=>EQ cs ks
 |_,_=>[]
def ER:List SV->List (Bool×List Ck)->List (Nat×Bool)
 |v::vs,r::rs=>EQ (pe v) r.2++ER vs rs
 |_,_=>[]
def AW(s:St):Nat->List PS->List (Nat×Bool)
 |_,[]=>[]
 |i,.v _ _::ps=>AW s (i+1) ps
 |i,.x _::ps=>(vY (pe (s.get (.x i)))).map (λid=>(id,true))++AW s (i+1) ps
where
 vY:List Ce->List Nat
  | []=>[]
  | .o id _::cs=>id::vY cs
  |_::cs=>vY cs
def Wk.plain(k:Wk):Ce->Option Lf
 | .p x=>some x
 | .n=>some .e
 | .o id []=>match k.get (.o id)with
  | .fz _ x=>some x
  |_=>none
 |_=>none
def Wk.pZ(k:Wk):List Ce->Option (List Lf)
 | []=>some []
 |c::cs=>(k.plain c).bind λx=>(Wk.pZ k cs).bind λxs=>some (x::xs)
def mm(k:Wk):List Ce->List Ck->Option (Wk×List Lf×List Nat)
 | [],[]=>some (k,[],[])
 | .o id []::cs,.o dp::ks=>
  match k.get (.o id)with
  | .ob uZ x=>bif uZ==dp&& !Nat.beq (id%4) 2 then(mm k cs ks).bind λ(k,xs,ids)=>some (k,x::xs,id::ids)else none
  |_=>none
 | .n::cs,.o _::ks=>(mm k cs ks).bind λ(k,xs,ids)=>some (k,.e::xs,ids)
 | .p x::cs,.s::ks=>
  (mm k cs ks).bind λ(k,xs,ids)=>
   let(k,y):=k.em .rP [x]
   some (k,y::xs,ids)
 |c::cs,.p::ks=>(k.plain c).bind λx=>(mm k cs ks).bind λ(k,xs,ids)=>some (k,x::xs,ids)
 |_,_=>none
def l_(k:Wk):List SV->List (Bool×List Ck)->Option (Wk×List Lf×List Nat)
 | [],[]=>some (k,[],[])
 | .v ag cs::vs,(xb,ks)::rs=>bif ag==xb then
   (l_ k vs rs).bind λ(k,ys,jds)=>(mm k cs ks).bind λ(k,xs,ids)=>some (k,xs++ys,ids++jds)
  else none
 |_,_=>none
def yn(k:Wk):Nat->List PS->Option (List Lf)
 |_,[]=>some []
 |i,.v _ _::ps=>yn k (i+1) ps
 |i,.x n::ps=>
  match k.get (.x i)with
  | .v _ cs=>bif Nat.beq cs.length n then(k.pZ cs).bind λxs=>(yn k (i+1) ps).bind λys=>some (xs++ys)else none
  |_=>none
def u_:Nat->Nat->List PS->Nat×St
 |a,_,[]=>(a,[])
 |a,i,.v ag n::ps=>
  let r:=u_ (a+n) (i+1) ps
  (r.1,(.t 0 i,.v ag (DP a n))::r.2)
 |a,i,.x n::ps=>
  let r:=u_ (a+n) (i+1) ps
  (r.1,(.t 0 i,.pt i 0)::(.x i,.v true (DP a n))::r.2)
def JF(cx:Cx)(fn:Func)(sg:nU):KP:=λlv s ct fs=>
 (results cx 0 s fn.results.toList).bind λvs=>
  let s1:=tR s (ER vs sg.rs++AW s 0 sg.ps)
  match l_ ⟨s1,[],ct,[]⟩ vs sg.rs with
  |none=>some (.rQ 90 [s1,vs.map λv=>(.x 0,v)])
  |some (k,xs,ids)=>
   match yn k 0 sg.ps with
   |none=>some (.rQ 91 [s1])
   |some ys=>
    bif vL ids then
     bif Nat.beq k.ct.a (ct.a+qF k.is)&&rV k.ct.a k.is then some (wrap k.is (.ret (xs++ys)))else none
    else some (.rQ 92 [])
def ES(sg:nU):Bool:=!(pV sg&&sg.rs.any λr=>r.2.any λ | .o true=>true|_=>false)
def AX(cx:Cx)(n df:Nat)(fn:Func)(sg:nU):Option PL:=
 fn.body.bind λc=>
  let r:=u_ 0 0 sg.ps
  bif xc fn.ntmps c&&Nat.ble sg.ps.length fn.ntmps&&ES sg then
   comp cx (EP cx n) df 0 c 0 0 r.2 ⟨r.1,sg.ps.length+1⟩ [] λe=>
    match e with
    | .exit _=>λ_ _ _ _=>none
    |_=>JF cx fn sg
  else none
theorem Lf.beq_eq{x y:Lf}(h:x.beq y=true):x=y:=by
 cases x with
 |k v=>
  cases y with
  |k u=>
   cases v<;>cases u<;>simp_all[Lf.beq]
   exact ByteArray.ext h
  |a m=>simp[Lf.beq]at h
  |e=>simp[Lf.beq]at h
 |a n=>
  cases y with
  |a m=>simp[Lf.beq]at h;rw[h]
  |k u=>simp[Lf.beq]at h
  |e=>simp[Lf.beq]at h
 |e=>cases y<;>simp[Lf.beq]at h;rfl
inductive Lb where
 |f
 |x (b:Nat)
 |o (id:Nat) (p:List (Nat×Nat))
def Lb.id:Lb->Nat
 | .f=>0
 | .x b=>b
 | .o i _=>i
structure Gh where
 ω:Nat->Option Lb
 β:Nat->Nat
 H:Nat->List (Nat×Nat)->Value
 hs:∀i p,∃a n c,H i p=.slice a n c
def qt:Lb->Bool
 | .o i p=>Nat.beq (i%4) 2||(Nat.beq (i%2) 0&& !p.isEmpty)
 |_=>false
def qf(ω:Nat->Option Lb):Nat->Option Lb:=λb=>match ω b with
 |some l=>bif qt l then none else some l
 |none=>none
theorem AY{ω:Nat->Option Lb}{b:Nat}(h:ω b=none):qf ω b=none:=by simp[qf,h]
theorem AZ{ω:Nat->Option Lb}{b:Nat}{l:Lb}(h:ω b=some l)(hq:qt l=false):qf ω b=some l:=by simp[qf,h,hq]
theorem Re{ω:Nat->Option Lb}{b:Nat}{l:Lb}(h:ω b=some l)(hq:qt l=true):qf ω b=none:=by simp[qf,h,hq]
theorem Rf{ω:Nat->Option Lb}{b:Nat}(h:qf ω b=none):ω b=none∨∃l,ω b=some l∧qt l=true:=by
 unfold qf at h
 split at h
 ·rename_i l hl
  cases hq:qt l with
  |true=>exact .inr ⟨l,hl,hq⟩
  |false=>simp[hq]at h
 ·rename_i hl;exact .inl hl
theorem vZ{ω:Nat->Option Lb}{b:Nat}{l:Lb}(h:ω b=some l)(hq:qt l=false):qf ω b≠none:=by rw[AZ h hq];simp
theorem tT{ω v8:Nat->Option Lb}{b:Nat}(h:qf ω b=none)(hn:ω b=none->v8 b=none)(hl:∀l,ω b=some l->qt l=true->v8 b=none∨∃l',v8 b=some l'∧qt l'=true):qf v8 b=none:=by
 rcases Rf h with h0|⟨l,h1,h2⟩
 ·exact AY (hn h0)
 ·rcases hl l h1 h2 with h3|⟨l',h3,h4⟩
  ·exact AY h3
  ·exact Re h3 h4
def Gh.q(G:Gh):Nat->Option Lb:=qf G.ω
theorem JG{G:Gh}{b:Nat}{l:Lb}(h:G.q b=some l):G.ω b=some l:=by
 unfold Gh.q qf at h
 split at h
 ·rename_i l' hl
  cases hq:qt l' with
  |true=>simp[hq]at h
  |false=>simp[hq]at h;rw[hl,h]
 ·cases h
theorem Gh.v_{G G':Gh}{b:Nat}(h:G'.ω b=G.ω b):G'.q b=G.q b:=by simp only[Gh.q,qf,h]
theorem JH{ρ:List T}{id:Nat}{p:List (Nat×Nat)}(h:p=[]∨id%2=1)(h2:id%4≠2):qt (.o id p)=false:=by
 have e1:Nat.beq (id%4) 2=false:=by
  cases hb:Nat.beq (id%4) 2 with
  |false=>rfl
  |true=>exact absurd (ew hb) h2
 rcases h with rfl|h
 ·simp[qt,e1]
 ·have e2:Nat.beq (id%2) 0=false:=by rw[h];rfl
  simp[qt,e1,e2]
theorem rX{id:Nat}(h2:id%4≠2):qt (.o id [])=false:=JH (ρ:=[]) (.inl rfl) h2
theorem wb{i:Nat}{p:List (Nat×Nat)}(hi:i%2=0)(hp:p≠[]):qt (.o i p)=true:=by
 cases p with
 |nil=>exact absurd rfl hp
 |cons x p=>simp[qt,hi]
theorem JI{i:Nat}{p:List (Nat×Nat)}(hi:i%4=2):qt (.o i p)=true:=by simp[qt,hi]
def eg(xs:List (List T))(i j:Nat):Option T:=xs[i]?.bind (·[j]?)
inductive fq (ω:Nat->Option Lb) (w:World):T->Value->Prop
 |c {v:Value} (h:kV v=true):fq ω w (.c v) v
 |nil {a:Option Addr} {cap:Nat}:fq ω w (.l []) (.slice a 0 cap)
 |l {xs:List (List T)} {b off wd cap:Nat} {cv:Nat->Nat->Value} (hw:∀r∈xs,r.length=wd) (hc:xs.length<=cap)
   (hb:ω b=none) (bC:b<w.heap.size)
   (h1:∀i j t,eg xs i j=some t->w.cell? ⟨b,off+(i*wd+j),none⟩=some (cv i j))
   (h2:∀i j t,eg xs i j=some t->fq ω w t (cv i j)):fq ω w (.l xs) (.slice (some ⟨b,off,none⟩) xs.length cap)
inductive fG (G:Gh) (w:World) (id:Nat):Bool->List (Nat×Nat)->T->Prop
 |nil {dp:Bool} {p:List (Nat×Nat)} (hH:G.H id p=.slice none 0 0):fG G w id dp p (.l [])
 |l {dp:Bool} {p:List (Nat×Nat)} {xs:List (List T)} {b wd cap:Nat} {arr:Array Value} {elem:TypeId} {cv:Nat->Nat->Value}
   (hH:G.H id p=.slice (some ⟨b,0,none⟩) xs.length cap) (hc:xs.length<=cap∧(xs=[]->cap=0)) (iE:G.ω b=some (.o id p))
   (hh:w.heap[b]?=some (.cells arr elem (0,0))) (hs:arr.size=cap*wd) (hw:∀r∈xs,r.length=wd)
   (h1:∀i j t,eg xs i j=some t->arr[i*wd+j]?=some (cv i j))
   (hv:∀i j v,eg xs i j=some (.c v)->cv i j=v∧kV v=true)
   (hp:∀i j ys,eg xs i j=some (.l ys)->dp=false->fq G.q w (.l ys) (cv i j))
   (hq:∀i j ys,eg xs i j=some (.l ys)->dp=true->cv i j=G.H id (p++[(i,j)]))
   (ho:∀i j ys,eg xs i j=some (.l ys)->dp=true->fG G w id true (p++[(i,j)]) (.l ys)):fG G w id dp p (.l xs)
def Lf.gh(ρ:List T):Lf->Option T
 | .k v=>bif kV v then some (.c v)else none
 | .a n=>ρ[n]?
 | .e=>some (.l [])
theorem Lf.cb{ρ:List T}{x:Lf}{t:T}(h:x.gh ρ=some t):x.ev ρ=t:=by
 cases x with
 |k v=>simp only[Lf.gh]at h;cases hs:kV v<;>simp[hs]at h;simp[Lf.ev,h]
 |a n=>simp only[Lf.gh]at h;simp[Lf.ev,List.getD,h]
 |e=>simpa[Lf.gh,Lf.ev]using h
def ma(ρ:List T)(x:Lf):Option Nat:=
 match x.gh ρ with
 |some (.c (.int _ n))=>if 0<=n then some n.toNat else none
 |_=>none
def hY(ρ:List T):nh->Option (List (Nat×Nat))
 | []=>some []
 |(x,_,j)::q=>(ma ρ x).bind λi=>(hY ρ q).bind λp=>some ((i,j)::p)
def lH(ρ:List T)(id:Nat)(q:nh):Option (List (Nat×Nat)):=
 match q with
 | []=>some []
 |x::q=>if id%2=1 then hY ρ (x::q)else none
theorem mB{ρ:List T}{id:Nat}:lH ρ id []=some []:=rfl
theorem tU{ρ:List T}{id:Nat}{q:nh}{p:List (Nat×Nat)}(h:lH ρ id q=some p):hY ρ q=some p:=by
 cases q with
 |nil=>exact h
 |cons x q=>
  simp only[lH]at h
  split at h
  ·exact h
  ·cases h
theorem ET{ρ:List T}{id:Nat}{q:nh}{p:List (Nat×Nat)}(h:lH ρ id q=some p):p=[]∨id%2=1:=by
 cases q with
 |nil=>simp only[lH,bP]at h;exact .inl h.symm
 |cons x q=>
  simp only[lH]at h
  split at h
  ·exact .inr (by assumption)
  ·cases h
theorem afv{ρ:List T}{id:Nat}{q:nh}{p:List (Nat×Nat)}(h:hY ρ q=some p)(hi:id%2=1):lH ρ id q=some p:=by
 cases q with
 |nil=>exact h
 |cons x q=>simp only[lH,if_pos hi];exact h
def gD(G:Gh)(w:World)(ρ:List T):Ce->Value->Prop
 | .p x,c=>∃t,x.gh ρ=some t∧fq G.q w t c
 | .o id q,c=>∃p,lH ρ id q=some p∧c=G.H id p
 | .n,c=>c=.slice none 0 0
 | .d,c=>c.oneCell'=true
def bu(G:Gh)(w:World)(ρ:List T):List Ce->List Value->Prop
 | [],[]=>True
 |c::cs,v::vs=>gD G w ρ c v∧bu G w ρ cs vs
 |_,_=>False
def fH(G:Gh)(w:World)(ρ:List T)(ag:Bool)(cs:List Ce)(c:Value):Prop:=
 match ag with
 |true=>∃vs:List Value,c=.agg vs.toArray∧bu G w ρ cs vs
 |false=>∃e,cs=[e]∧gD G w ρ e c∧∀a,c≠.agg a
def gR(G:Gh)(w:World)(ρ:List T):List (Bool×List Ce)->List Value->Prop
 | [],[]=>True
 |c::cs,v::vs=>fH G w ρ c.1 c.2 v∧gR G w ρ cs vs
 |_,_=>False
def cR(G:Gh)(w:World)(ρ:List T):SV->Value->Prop
 | .un,_=>True
 | .v ag cs,c=>fH G w ρ ag cs c
 | .pt b off,c=>c=.pointer (some ⟨G.β b,off,none⟩)
 | .ep id q ix wd off,c=>∃p b n cap i,lH ρ id q=some p∧G.H id p=.slice (some ⟨b,0,none⟩) n cap∧ma ρ ix=some i∧i<n∧
   c=.pointer (some ⟨b,i*wd+off,none⟩)
 | .fp s ix wd off,c=>∃xs i r b base,s.gh ρ=some (.l xs)∧ma ρ ix=some i∧xs[i]?=some r∧c=.pointer (some ⟨b,base+off,none⟩)∧
   (r.length=wd->G.q b=none∧b<w.heap.size∧∀j t,r[j]?=some t->∃u,w.cell? ⟨b,base+j,none⟩=some u∧fq G.q w t u)
 | .tp vs,c=>∃us:List Value,c=.tuple us.toArray∧gR G w ρ vs us
 | .cl f bs,c=>c=.func (.func f) #[] (bs.map λb=>Value.pointer (some ⟨G.β b,0,none⟩)).toArray
 | .ob _ _,_=>False
 | .fz _ _,_=>False
 | .tk _ _,_=>False
 | .fl _,_=>False
 | .fr _,_=>False
def gy(G:Gh)(w:World)(ρ:List T)(b:Nat):SV->Prop
 | .v _ cs=>G.ω (G.β b)=some (.x b)∧∃arr elem,w.heap[G.β b]?=some (.cells arr elem (0,0))∧bu G w ρ cs arr.toList
 | .un=>True
 |_=>False
def oO(w:World)(H:List (Nat×Nat)->Value)(n:Nat)(v:Value)(zs:List (List T)):Prop:=
 ∀b off k c,v=.slice (some ⟨b,off,none⟩) k c->∃wd,(∀r∈zs,r.length=wd)∧∀i j ys,eg zs i j=some (.l ys)->w.cell? ⟨b,off+(i*wd+j),none⟩=some (H [(n+i,j)])
def xd(G:Gh)(w:World)(ρ:List T)(v:Value)(t:T):Pv->Prop
 | .z=>True
 | .w tk x lo=>tk%4=2∧∃F n zs,x.gh ρ=some (.l F)∧ma ρ lo=some n∧t=.l zs∧(∀i r,zs[i]?=some r->F[n+i]?=some r)∧
   oO w (G.H tk) n v zs∧(n=0->∀b off k c,v=.slice (some ⟨b,off,none⟩) k c->off=0)
def cS(G:Gh)(w:World)(ρ:List T)(id:Nat):SV->Prop
 | .ob dp x=>∃t,x.gh ρ=some t∧fG G w id dp [] t
 | .fz pv x=>∃t,x.gh ρ=some t∧fq G.q w t (G.H id [])∧xd G w ρ (G.H id []) t pv
 | .tk x m=>id%4=2∧∃F u,x.gh ρ=some (.l F)∧m.gh ρ=some (.l u)∧u.length=F.length∧
   ∀i r,u[i]?=some r->r≠[]->F[i]?=some r∧∀j ys,r[j]?=some (.l ys)->fG G w id true [(i,j)] (.l ys)
 | .fl x=>id%4=2∧∃t,x.gh ρ=some t∧fG G w id true [] t
 | .fr x=>id%4=0∧∃ys,x.gh ρ=some (.l ys)∧fq G.q w (.l ys) (G.H id [])∧oO w (G.H id) 0 (G.H id []) ys∧
   ∀i j zs,eg ys i j=some (.l zs)->fG G w id true [(i,j)] (.l zs)
 | .un=>True
 |_=>False
structure dM (I:Lb->Prop) (N:Nat->Prop) (G:Gh) (w:World) (G':Gh) (w':World):Prop where
 size:w.heap.size<=w'.heap.size
 free:∀b,b<w.heap.size->G.q b=none->G'.q b=none∧w'.heap[b]?=w.heap[b]?
 frs:∀b,b<w.heap.size->G.ω b=none->G'.ω b=none
 own:∀b l,G.ω b=some l->¬I l->G'.ω b=some l∧w'.heap[b]?=w.heap[b]?
 nm:∀i,¬N i->G'.β i=G.β i∧∀p,(p=[]∨i%4≠0∨∀r,¬I (.o i r))->G'.H i p=G.H i p
theorem JJ{w w':World}{b:Nat}(h:w'.heap[b]?=w.heap[b]?)(off:Nat):w'.cell? ⟨b,off,none⟩=w.cell? ⟨b,off,none⟩:=by
 simp only[World.cell?,h]
theorem fq.bw{ω v8:Nat->Option Lb}{w w':World}(hs:w.heap.size<=w'.heap.size)
  (hf:∀b,b<w.heap.size->ω b=none->v8 b=none∧w'.heap[b]?=w.heap[b]?){t:T}{c:Value}(h:fq ω w t c):fq v8 w' t c:=by
 induction h with
 |c h=>exact .c h
 |nil=>exact .nil
 |l hw hc hb bC h1 h2 ih=>
  obtain⟨km,hh⟩:=hf _ bC hb
  exact .l hw hc km (Nat.lt_of_lt_of_le bC hs) (λi j t ht=>by rw[JJ hh];exact h1 i j t ht) ih
theorem fG.bw{I:Lb->Prop}{N:Nat->Prop}{G G':Gh}{w w':World}(k:dM I N G w G' w'){id:Nat}(hi:∀p,¬I (.o id p))(hn:¬N id){dp:Bool}{p:List (Nat×Nat)}{t:T}
  (h:fG G w id dp p t):fG G' w' id dp p t:=by
 have hH:G'.H id=G.H id:=funext λp=>(k.nm id hn).2 p (.inr (.inr hi))
 induction h with
 |nil h=>exact .nil (by rw[hH];exact h)
 |l h1 h2 h3 h4 h5 h6 h7 h8 h9 nX _ ih=>
  obtain⟨ho,hh⟩:=k.own _ _ h3 (hi _)
  exact .l (by rw[hH];exact h1) h2 ho (hh.trans h4) h5 h6 h7 h8 (λi j ys hy hd=>(h9 i j ys hy hd).bw k.size k.free)
   (λi j ys hy hd=>by rw[hH];exact nX i j ys hy hd) ih
def dZ:List Ce->List Nat
 | []=>[]
 | .o id _::cs=>id::dZ cs
 |_::cs=>dZ cs
def rY:List (Bool×List Ce)->List Nat
 | []=>[]
 |v::vs=>dZ v.2++rY vs
def dI:SV->List Nat
 | .v _ cs=>dZ cs
 | .pt b _=>[b]
 | .ep id _ _ _ _=>[id]
 | .cl _ bs=>bs
 | .tp vs=>rY vs
 | .fz (.w tk _ _) _=>[tk]
 |_=>[]
theorem gD.bw{I:Lb->Prop}{N:Nat->Prop}{G G':Gh}{w w':World}(k:dM I N G w G' w'){ρ:List T}{e:Ce}{c:Value}(hn:∀i∈dZ [e],¬N i)
  (h:gD G w ρ e c):gD G' w' ρ e c:=by
 cases e with
 |p x=>obtain⟨t,h1,h2⟩:=h;exact⟨t,h1,h2.bw k.size k.free⟩
 |o id q=>obtain⟨p,h1,h2⟩:=h;exact⟨p,h1,by rw[(k.nm id (hn id (by simp[dZ]))).2 p ((ET h1).imp_right λh=>.inl (by omega))];exact h2⟩
 |n=>exact h
 |d=>exact h
theorem yo(e:Ce)(cs:List Ce):dZ (e::cs)=dZ [e]++dZ cs:=by
 cases e<;>simp[dZ]
theorem bu.bw{I:Lb->Prop}{N:Nat->Prop}{G G':Gh}{w w':World}(k:dM I N G w G' w'){ρ:List T}:∀{cs:List Ce} {vs:List Value},(∀i∈dZ cs,¬N i)->
  bu G w ρ cs vs->bu G' w' ρ cs vs
 | [],[],_,_=>trivial
 | [],_::_,_,h=>h.elim
 |_::_,[],_,h=>h.elim
 |e::cs,v::vs,hn,h=>by
  rw[yo]at hn
  exact⟨h.1.bw k (λi hi=>hn i (List.mem_append_left _ hi)),bu.bw k (λi hi=>hn i (List.mem_append_right _ hi)) h.2⟩
theorem fH.bw{I:Lb->Prop}{N:Nat->Prop}{G G':Gh}{w w':World}(k:dM I N G w G' w'){ρ:List T}{ag:Bool}{cs:List Ce}{c:Value}(hn:∀i∈dZ cs,¬N i)
  (h:fH G w ρ ag cs c):fH G' w' ρ ag cs c:=by
 cases ag with
 |true=>obtain⟨vs,h1,h2⟩:=h;exact⟨vs,h1,h2.bw k hn⟩
 |false=>obtain⟨e,rfl,h2,h3⟩:=h;exact⟨e,rfl,h2.bw k hn,h3⟩
theorem gR.bw{I:Lb->Prop}{N:Nat->Prop}{G G':Gh}{w w':World}(k:dM I N G w G' w'){ρ:List T}:∀{cs:List (Bool×List Ce)} {vs:List Value},(∀i∈rY cs,¬N i)->
  gR G w ρ cs vs->gR G' w' ρ cs vs
 | [],[],_,_=>trivial
 | [],_::_,_,h=>h.elim
 |_::_,[],_,h=>h.elim
 |e::cs,v::vs,hn,h=>⟨h.1.bw k (λi hi=>hn i (by simp[rY,hi])),gR.bw k (λi hi=>hn i (by simp[rY,hi])) h.2⟩
theorem cR.bw{I:Lb->Prop}{N:Nat->Prop}{G G':Gh}{w w':World}(k:dM I N G w G' w'){ρ:List T}{v:SV}{c:Value}(hn:∀i∈dI v,¬N i)
  (h:cR G w ρ v c):cR G' w' ρ v c:=by
 cases v with
 |un=>trivial
 |v ag cs=>exact fH.bw k hn h
 |pt b off=>exact(by rw[cR,(k.nm b (hn b (by simp[dI]))).1];exact h)
 |ep id q ix wd off=>
  obtain⟨p,b,n,cap,i,h1,h2,h3⟩:=h
  exact⟨p,b,n,cap,i,h1,by rw[(k.nm id (hn id (by simp[dI]))).2 p ((ET h1).imp_right λh=>.inl (by omega))];exact h2,h3⟩
 |fp s ix wd off=>
  obtain⟨xs,i,r,b,base,h1,h2,h3,h4,h5⟩:=h
  refine⟨xs,i,r,b,base,h1,h2,h3,h4,λhr=>?_⟩
  obtain⟨h6,h7,h8⟩:=h5 hr
  obtain⟨h9,nX⟩:=k.free _ h7 h6
  refine⟨h9,Nat.lt_of_lt_of_le h7 k.size,λj t ht=>?_⟩
  obtain⟨u,hu,hd⟩:=h8 j t ht
  exact⟨u,by rw[JJ nX];exact hu,hd.bw k.size k.free⟩
 |tp vs=>obtain⟨us,h1,h2⟩:=h;exact⟨us,h1,h2.bw k hn⟩
 |cl f bs=>
  simp only[cR]at h⊢
  rw[h]
  congr 2
  exact List.map_congr_left λb hb=>by rw[(k.nm b (hn b (by simpa[dI]using hb))).1]
 |ob dp x=>exact h
 |fz pv x=>exact h
 |tk x m=>exact h
 |fl x=>exact h
 |fr x=>exact h
theorem gy.bw{I:Lb->Prop}{N:Nat->Prop}{G G':Gh}{w w':World}(k:dM I N G w G' w'){ρ:List T}{b:Nat}{v:SV}(hi:¬I (.x b))(hb:¬N b)(hn:∀i∈dI v,¬N i)
  (h:gy G w ρ b v):gy G' w' ρ b v:=by
 cases v with
 |v ag cs=>
  obtain⟨h1,arr,elem,h2,h3⟩:=h
  obtain⟨h4,h5⟩:=k.own _ _ h1 hi
  have EU:=(k.nm b hb).1
  exact⟨by rw[EU];exact h4,arr,elem,by rw[EU];exact h5.trans h2,h3.bw k hn⟩
 |un=>trivial
 |_=>exact h
theorem oO.bw{ω:Nat->Option Lb}{w w':World}{H H':List (Nat×Nat)->Value}{n:Nat}{v:Value}{zs:List (List T)}(h:oO w H n v zs)(hd:fq ω w (.l zs) v)
  (hf:∀b,b<w.heap.size->ω b=none->w'.heap[b]?=w.heap[b]?)(hH:∀p,p≠[]->H' p=H p):oO w' H' n v zs:=by
 intro b off k c hv
 obtain⟨wd,h1,h2⟩:=h b off k c hv
 refine⟨wd,h1,λi j ys bR=>?_⟩
 rw[hH _ (by simp),<-h2 i j ys bR]
 subst hv
 generalize hv:Value.slice (some (⟨b,off,none⟩:Addr)) k c=v at hd
 cases hd with
 |nil=>simp[eg]at bR
 |l g1 g2 g3 g4 g5 g6=>cases hv;exact JJ (hf _ g4 g3) _
theorem xd.bw{I:Lb->Prop}{N:Nat->Prop}{G G':Gh}{w w':World}(k:dM I N G w G' w'){ρ:List T}{pv:Pv}{v:Value}{t:T}(hd:fq G.q w t v)(hn:∀x i,i∈dI (.fz pv x)->¬N i)
  (h:xd G w ρ v t pv):xd G' w' ρ v t pv:=by
 cases pv with
 |z=>trivial
 |w tk x lo=>
  obtain⟨h0,F,n,zs,h1,h2,rfl,h3,h4,h5⟩:=h
  refine⟨h0,F,n,zs,h1,h2,rfl,h3,h4.bw hd (λb hb h=>(k.free b hb h).2) λp _=>?_,h5⟩
  exact(k.nm tk (hn .e tk (by simp[dI]))).2 p (.inr (.inl (by omega)))
theorem cS.bw{I:Lb->Prop}{N:Nat->Prop}{G G':Gh}{w w':World}(k:dM I N G w G' w'){ρ:List T}{id:Nat}{v:SV}(hi:∀p,¬I (.o id p))(hb:¬N id)(hn:∀i∈dI v,¬N i)
  (h:cS G w ρ id v):cS G' w' ρ id v:=by
 cases v with
 |ob dp x=>obtain⟨t,h1,h2⟩:=h;exact⟨t,h1,h2.bw k hi hb⟩
 |fz pv x=>
  obtain⟨t,h1,h2,h3⟩:=h
  have e:=(k.nm id hb).2 [] (.inl rfl)
  exact⟨t,h1,by rw[e];exact h2.bw k.size k.free,by rw[e];exact h3.bw k h2 (λ_ i hi=>hn i (by cases pv<;>exact hi))⟩
 |tk x m=>
  obtain⟨h0,F,u,h1,h2,h3,h4⟩:=h
  exact⟨h0,F,u,h1,h2,h3,λi r hr dU=>⟨(h4 i r hr dU).1,λj ys hy=>((h4 i r hr dU).2 j ys hy).bw k hi hb⟩⟩
 |fl x=>obtain⟨h0,t,h1,h2⟩:=h;exact⟨h0,t,h1,h2.bw k hi hb⟩
 |fr x=>
  obtain⟨h0,ys,h1,h2,h3,h4⟩:=h
  have e:=λp=>(k.nm id hb).2 p (.inr (.inr hi))
  refine⟨h0,ys,h1,by rw[e];exact h2.bw k.size k.free,by rw[e];exact h3.bw h2 (λb hb h=>(k.free b hb h).2) λp _=>e p,λi j zs hz=>(h4 i j zs hz).bw k hi hb⟩
 |un=>trivial
 |_=>exact h
theorem dM.refl(G:Gh)(w:World):dM (λ_=>False) (λ_=>False) G w G w:=
 ⟨Nat.le_refl _,λ_ _ h=>⟨h,rfl⟩,λ_ _ h=>h,λ_ _ h _=>⟨h,rfl⟩,λ_ _=>⟨rfl,λ_ _=>rfl⟩⟩
theorem dM.mono{I I':Lb->Prop}{N N':Nat->Prop}{G G':Gh}{w w':World}(k:dM I N G w G' w')(hI:∀l,I l->I' l)(hN:∀i,N i->N' i):dM I' N' G w G' w':=
 ⟨k.size,k.free,k.frs,λb l hb hl=>k.own b l hb λh=>hl (hI l h),λi hi=>⟨(k.nm i λh=>hi (hN i h)).1,λp hp=>(k.nm i λh=>hi (hN i h)).2 p (hp.imp_right λh=>h.imp_right λh r hr=>h r (hI _ hr))⟩⟩
theorem dM.trans{I:Lb->Prop}{N:Nat->Prop}{G G' G'':Gh}{w w' w'':World}(k:dM I N G w G' w')(k':dM I N G' w' G'' w''):dM I N G w G'' w'':=by
 refine⟨Nat.le_trans k.size k'.size,λb hb h0=>?_,λb hb h0=>k'.frs b (Nat.lt_of_lt_of_le hb k.size) (k.frs b hb h0),λb l hb hl=>?_,λi hi=>?_⟩
 ·obtain⟨h1,h2⟩:=k.free b hb h0
  obtain⟨h3,h4⟩:=k'.free b (Nat.lt_of_lt_of_le hb k.size) h1
  exact⟨h3,h4.trans h2⟩
 ·obtain⟨h1,h2⟩:=k.own b l hb hl
  obtain⟨h3,h4⟩:=k'.own b l h1 hl
  exact⟨h3,h4.trans h2⟩
 ·exact⟨(k'.nm i hi).1.trans (k.nm i hi).1,λp hp=>((k'.nm i hi).2 p hp).trans ((k.nm i hi).2 p hp)⟩
theorem St.tV(s:St)(r:bN):s.get r=(s.look r).getD .un:=by
 induction s with
 |nil=>rfl
 |cons x s ih=>
  obtain⟨r',v⟩:=x
  cases h:r'.beq r<;>simp[St.get,St.look,h,ih]
theorem St.bn(s W:St)(r:bN):(s.fS W).get r=(W.look r).getD (s.get r):=by
 induction W with
 |nil=>rfl
 |cons x W ih=>
  obtain⟨r',v⟩:=x
  cases h:r'.beq r with
  |true=>
   have:=bN.beq_iff.1 h
   subst this
   simp[St.fS,St.cw,St.look,h]
  |false=>
   have dU:r'≠r:=λe=>by simp[bN.beq_iff.2 e]at h
   simp[St.fS,St.eT _ _ dU,St.look,h,ih]
theorem St.bI(s:St)(r:bN)(v:SV):(s.set r v).look r=some v:=by
 induction s with
 |nil=>simp[St.set,St.look,(bN.beq_iff).2 rfl]
 |cons x s ih=>
  obtain⟨r',v'⟩:=x
  cases h:r'.beq r with
  |true=>simp[St.set,St.look,h,(bN.beq_iff).2 rfl]
  |false=>simp[St.set,St.look,h,ih]
theorem St.cN(s:St){r r':bN}(v:SV)(h:r≠r'):(s.set r v).look r'=s.look r':=by
 have hb:r.beq r'=false:=by
  cases hh:r.beq r' with
  |false=>rfl
  |true=>exact absurd (bN.beq_iff.1 hh) h
 induction s with
 |nil=>simp[St.set,St.look,hb]
 |cons x s ih=>
  obtain⟨r2,v2⟩:=x
  cases h2:r2.beq r with
  |true=>
   have:=bN.beq_iff.1 h2
   subst this
   simp[St.set,St.look,h2,hb]
  |false=>
   cases h3:r2.beq r' with
   |true=>simp[St.set,St.look,h2,h3]
   |false=>simp[St.set,St.look,h2,h3,ih]
theorem St.A0(s:St)(R:List bN){r:bN}(h:r∈R):(s.only R).get r=s.get r:=by
 induction R with
 |nil=>cases h
 |cons x R ih=>
  simp only[St.only,St.get]
  cases hb:x.beq r with
  |true=>have:=bN.beq_iff.1 hb;subst this;rfl
  |false=>
   refine ih ?_
   cases h with
   |head=>simp[bN.beq_iff.2 rfl]at hb
   |tail _ h=>exact h
theorem St.rZ(s:St)(R:List bN){r:bN}(h:r∉R):(s.only R).get r=.un:=by
 induction R with
 |nil=>rfl
 |cons x R ih=>
  simp only[St.only,St.get]
  have hb:x.beq r=false:=by
   cases hb:x.beq r with
   |false=>rfl
   |true=>exact absurd (bN.beq_iff.1 hb▸List.mem_cons_self) h
  rw[hb]
  exact ih λhm=>h (List.mem_cons_of_mem _ hm)
structure ft where
 w0:World
 nY:Nat->Option Lb
 bt:Nat->Option Nat
def Rg:List (Nat×List Value):=[]
def EV(ω:Nat->Option Lb)(w:World):Prop:=∀x∈Rg,x.1<w.heap.size∧ω x.1=none∧∃e z,w.heap[x.1]?=some (.cells x.2.toArray e z)
structure wc (B:ft) (G:Gh) (w:World):Prop where
 os:w.os=B.w0.os
 tape:w.tape=B.w0.tape
 output:w.output=B.w0.output
 size:B.w0.heap.size<=w.heap.size
 free:∀b,b<B.w0.heap.size->B.nY b=none->G.ω b=none∧w.heap[b]?=B.w0.heap[b]?
 DR:∀b,B.nY b=some .f->G.ω b=some .f∧w.heap[b]?=B.w0.heap[b]?
 gl:EV B.nY B.w0
theorem wc.afx{B:ft}{G:Gh}{w:World}(h:wc B G w):EV G.ω w:=λx hx=>by
 obtain⟨h1,h2,e,z,h3⟩:=h.gl x hx
 obtain⟨h4,h5⟩:=h.free x.1 h1 h2
 exact⟨Nat.lt_of_lt_of_le h1 h.size,h4,e,z,h5.trans h3⟩
def oP(up:Nat->Nat->Value)(d:Nat)(a:Act)(e n:Nat):Value:=if e=d then a.tmps.getD n undef else up e n
structure Rel (M:Nat->Prop) (B:ft) (d:Nat) (up:Nat->Nat->Value) (s:St) (ρ:List T) (G:Gh) (a:Act) (w:World):Prop where
 tm:∀e n,e<=d->cR G w ρ (s.get (.t e n)) (oP up d a e n)
 bx:∀b,gy G w ρ b (s.get (.x b))
 ob:∀i,cS G w ρ i (s.get (.o i))
 gA:∀r,∀i∈dI (s.get r),M i
 key:∀i,(s.get (.x i)≠.un∨s.get (.o i)≠.un)->M i
 iP:∀b l,G.ω b=some l->M l.id∧b<w.heap.size
 dn:a.defers=[]
 base:wc B G w
 bt:∀i b,B.bt i=some b->M i∧G.β i=b
theorem JK{up:Nat->Nat->Value}{d:Nat}{a:Act}{dst:Option Nat}{v:Value}{e n:Nat}(h:¬(e=d∧dst=some n)):
  oP up d (a.put dst v) e n=oP up d a e n:=by
 unfold oP
 split
 ·rename_i he
  cases dst with
  |none=>rfl
  |some m=>
   have dU:m≠n:=λhm=>h ⟨he,by rw[hm]⟩
   simp[Act.put,Array.getD_eq_getD_getElem?,Array.getElem?_setIfInBounds_ne dU]
 ·rfl
theorem Rh{up:Nat->Nat->Value}{d:Nat}{a:Act}{v:Value}{n:Nat}(h:n<a.tmps.size):oP up d (a.put (some n) v) d n=v:=by
 simp[oP,Act.put,Array.getD_eq_getD_getElem?,h]
theorem Rel.mono{M M':Nat->Prop}{B:ft}{d:Nat}{up:Nat->Nat->Value}{s:St}{ρ:List T}{G:Gh}{a:Act}{w:World}(h:Rel M B d up s ρ G a w)
  (hM:∀i,M i->M' i):Rel M' B d up s ρ G a w:=
 ⟨h.tm,h.bx,h.ob,λr i hi=>hM i (h.gA r i hi),λi hi=>hM i (h.key i hi),λb l hl=>⟨hM _ (h.iP b l hl).1,(h.iP b l hl).2⟩,h.dn,h.base,λi b hb=>⟨hM i (h.bt i b hb).1,(h.bt i b hb).2⟩⟩
def oQ(W:St):Lb->Prop
 | .f=>False
 | .x b=>W.look (.x b)≠none
 | .o i _=>W.look (.o i)≠none
theorem Rel.glue{M M':Nat->Prop}{B:ft}{d:Nat}{up:Nat->Nat->Value}{s s':St}{ρ:List T}{G:Gh}{a:Act}{w:World}(h:Rel M B d up s ρ G a w)
  {N:Nat->Prop}{G':Gh}{w':World}{W:St}(k:dM (oQ W) N G w G' w'){dst:Option Nat}{v:Value}
  (hN:∀i,N i->¬M i)(hM:∀i,M i->M' i)
  (hd:∀n,dst=some n->W.look (.t d n)≠none)
  (hr:Rel M' B d up (s'.fS W) ρ G' (a.put dst v) w'):Rel M' B d up (s.fS W) ρ G' (a.put dst v) w':=by
 have hw:∀r u,W.look r=some u->(s'.fS W).get r=u:=λr u hu=>by rw[St.bn,hu];rfl
 refine⟨?_,?_,?_,?_,?_,hr.iP,hr.dn,hr.base,hr.bt⟩
 ·intro e n he
  rw[St.bn]
  cases hl:W.look (.t e n)with
  |some u=>have:=hr.tm e n he;rw[hw _ _ hl]at this;exact this
  |none=>
   rw[JK λ⟨h1,h2⟩=>hd n h2 (h1▸hl)]
   exact(h.tm e n he).bw k λi hi hn=>hN i hn (h.gA _ i hi)
 ·intro b
  rw[St.bn]
  cases hl:W.look (.x b)with
  |some u=>have:=hr.bx b;rw[hw _ _ hl]at this;exact this
  |none=>
   by_cases hu:s.get (.x b)=.un
   ·simp only[Option.getD_none,hu];trivial
   ·exact(h.bx b).bw k (λhk=>hk hl) (λhn=>hN b hn (h.key b (.inl hu))) λi hi hn=>hN i hn (h.gA _ i hi)
 ·intro i
  rw[St.bn]
  cases hl:W.look (.o i)with
  |some u=>have:=hr.ob i;rw[hw _ _ hl]at this;exact this
  |none=>
   by_cases hu:s.get (.o i)=.un
   ·simp only[Option.getD_none,hu];trivial
   ·exact(h.ob i).bw k (λp hk=>hk hl) (λhn=>hN i hn (h.key i (.inr hu))) λj hj hn=>hN j hn (h.gA _ j hj)
 ·intro r i hi
  rw[St.bn]at hi
  cases hl:W.look r with
  |some u=>rw[hl]at hi;refine hr.gA r i ?_;rw[hw _ _ hl];exact hi
  |none=>rw[hl]at hi;exact hM i (h.gA r i hi)
 ·intro i hi
  rw[St.bn,St.bn]at hi
  rcases hi with hi|hi
  ·cases hl:W.look (.x i)with
   |some u=>rw[hl]at hi;exact hr.key i (.inl (by rw[hw _ _ hl];exact hi))
   |none=>rw[hl]at hi;exact hM i (h.key i (.inl hi))
  ·cases hl:W.look (.o i)with
   |some u=>rw[hl]at hi;exact hr.key i (.inr (by rw[hw _ _ hl];exact hi))
   |none=>rw[hl]at hi;exact hM i (h.key i (.inr hi))
theorem Rel.EW{M:Nat->Prop}{B:ft}{d:Nat}{up:Nat->Nat->Value}{s:St}{ρ:List T}{G:Gh}{a:Act}{w:World}(h:Rel M B d up s ρ G a w)
  {n:Nat}{x:SV}{v:Value}(hn:n<a.tmps.size)(hr:cR G w ρ x v)(hm:∀i∈dI x,M i):
  Rel M B d up (s.set (.t d n) x) ρ G (a.put (some n) v) w:=by
 have hg:∀r,r≠.t d n->(s.set (.t d n) x).get r=s.get r:=λr hr=>St.eT _ _ (Ne.symm hr)
 refine⟨λe m he=>?_,λb=>?_,λi=>?_,λr i hi=>?_,λi hi=>?_,h.iP,h.dn,h.base,h.bt⟩
 ·by_cases jG:(bN.t e m)=.t d n
  ·cases jG;rw[St.cw,Rh hn];exact hr
  ·rw[hg _ jG,JK λ⟨h1,h2⟩=>jG (by cases h1;cases h2;rfl)];exact h.tm e m he
 ·rw[hg _ (by simp)];exact h.bx b
 ·rw[hg _ (by simp)];exact h.ob i
 ·by_cases jG:r=.t d n
  ·subst jG;rw[St.cw]at hi;exact hm i hi
  ·rw[hg _ jG]at hi;exact h.gA r i hi
 ·rw[hg _ (by simp),hg _ (by simp)]at hi;exact h.key i hi
def bT(S:Nat->aA)(ρ:List T):Nat->List Ew->Prop
 |_,[]=>True
 |e,.pr p xs::is=>∃n t,e=n+1∧p.ev (xs.map (Lf.ev ρ))=some t∧ρ[n]?=some t∧bT S ρ n is
 |e,.cl g xs m::is=>∃n ts,e=n+m∧S g (xs.map (Lf.ev ρ))=some ts∧(∀i,i<m->ρ[n+i]?=some (ts.getD i T.bQ))∧bT S ρ n is
def Wk.bT(S:Nat->aA)(ρ:List T)(k:Wk):Prop:=Go.Proofs.YtjimmglpkndemaaGreatC.bT S ρ k.ct.a k.is
structure Wk.fB (k k':Wk):Prop where
 r:k'.r=k.r
 w:k'.w=k.w
 i:k'.ct.i=k.ct.i
theorem Wk.fB.refl(k:Wk):k.fB k:=⟨rfl,rfl,rfl⟩
theorem Wk.fB.trans{a b c:Wk}(h:a.fB b)(h':b.fB c):a.fB c:=⟨h'.r.trans h.r,h'.w.trans h.w,h'.i.trans h.i⟩
theorem Wk.fB.get{k k':Wk}(h:k.fB k')(r:bN):k'.get r=k.get r:=by simp[Wk.get,h.r,h.w]
section
variable {S:Nat->aA} {ρ:List T}
theorem Wk.bX(k:Wk)(p:Prim)(xs:List Lf):k.fB (k.em p xs).1:=⟨rfl,rfl,rfl⟩
theorem Wk.cf{k:Wk}{p:Prim}{xs:List Lf}(h:(k.em p xs).1.bT S ρ):
  k.bT S ρ∧∃t,p.ev (xs.map (Lf.ev ρ))=some t∧(k.em p xs).2.gh ρ=some t:=by
 obtain⟨n,t,h1,h2,h3,h4⟩:=h
 have:n=k.ct.a:=by simp[Wk.em]at h1;omega
 subst this
 exact⟨h4,t,h2,h3⟩
def jh:List (Nat×Nat)->T->Option T
 | [],t=>some t
 |(i,j)::p,.l xs=>(eg xs i j).bind (jh p)
 |_,_=>none
theorem yp{x:Lf}{i:Nat}(h:ma ρ x=some i):∃k,(x.ev ρ)=.c (.int k i):=by
 unfold ma at h
 split at h
 ·rename_i k n hx
  split at h
  ·rename_i h0
   cases h
   exact⟨k,by rw[Lf.cb hx];congr 2;exact(Int.toNat_of_nonneg h0).symm⟩
  ·cases h
 ·cases h
theorem A1{xs:List (List T)}{k:IntKind}{i:Nat}:uY (.l xs) (.c (.int k (i:Int)))=xs[i]?:=by
 simp[uY,T.rows,T.int]
theorem EX{x ix:Lf}{w j i:Nat}{xs:List (List T)}{t:T}(hx:x.gh ρ=some (.l xs))(hi:ma ρ ix=some i)
  (h:Prim.ev (.lF w j) [x.ev ρ,ix.ev ρ]=some t):∃ys,t=.l ys∧eg xs i j=some (.l ys)∧∃r,xs[i]?=some r∧r.length=w:=by
 obtain⟨k,hk⟩:=yp hi
 rw[Lf.cb hx,hk]at h
 simp only[Prim.ev,A1]at h
 cases hr:xs[i]? with
 |none=>simp[hr]at h
 |some r=>
  simp only[hr,Option.bind_some]at h
  split at h
  ·rename_i hl
   cases hj:r[j]? with
   |none=>simp[hj]at h
   |some u=>
    cases u with
    |c v=>simp[hj,T.rows]at h
    |l ys=>
     simp[hj,T.rows]at h
     exact⟨ys,h.symm,by simp[eg,hr,hj],r,rfl,hl⟩
  ·cases h
theorem Wk.fT:∀(q:nh) (k:Wk) (x:Lf),k.fB (k.down x q).1
 | [],k,x=>.refl k
 |(ix,w,j)::q,k,x=>by
  simp only[Wk.down]
  exact(Wk.bX k _ _).trans (Wk.fT q _ _)
theorem Wk.lI:∀(q:nh) (k:Wk) (x:Lf),(k.down x q).1.bT S ρ->k.bT S ρ
 | [],_,_,h=>h
 |(ix,w,j)::q,k,x,h=>(Wk.cf (Wk.lI q _ _ h)).1
theorem Wk.jq:∀(q:nh) (k:Wk) (x:Lf) {t:T} {p:List (Nat×Nat)},(k.down x q).1.bT S ρ->x.gh ρ=some t->hY ρ q=some p->
  (q=[]∨∃xs,t=.l xs)->∃u,jh p t=some u∧(k.down x q).2.gh ρ=some u∧(q=[]∨∃ys,u=.l ys)
 | [],k,x,t,p,h,hx,hp,_=>by
  simp only[hY]at hp
  cases hp
  exact⟨t,rfl,hx,.inl rfl⟩
 |(ix,w,j)::q,k,x,t,p,h,hx,hp,ht=>by
  simp only[Wk.down]at h⊢
  obtain⟨xs,rfl⟩:=ht.resolve_left (by simp)
  simp only[hY]at hp
  cases hi:ma ρ ix with
  |none=>simp[hi]at hp
  |some i=>
   cases hq:hY ρ q with
   |none=>simp[hi,hq]at hp
   |some p'=>
    simp[hi,hq]at hp
    subst hp
    obtain⟨_,u,hu,huv⟩:=Wk.cf (Wk.lI q _ _ h)
    obtain⟨ys,rfl,bR,_⟩:=EX hx hi hu
    obtain⟨v,hv,s9,hl⟩:=Wk.jq q _ _ h huv hq (.inr ⟨ys,rfl⟩)
    refine⟨v,by simp[jh,bR,hv],s9,.inr ?_⟩
    rcases hl with rfl|hl
    ·simp only[hY]at hq
     cases hq
     simp[jh]at hv
     exact⟨ys,hv.symm⟩
    ·exact hl
def er(ω:Nat->Option Lb):Nat->Option Lb:=λb=>match ω b with
 |some (.x i)=>some (.x i)
 |some .f=>some .f
 |_=>none
theorem afz{ω:Nat->Option Lb}{b:Nat}(h:ω b=none):er ω b=none:=by simp[er,h]
theorem Ri{G:Gh}{b:Nat}(h:G.q b=none):er G.ω b=none:=by
 rcases Rf h with h0|⟨l,h1,h2⟩
 ·exact afz h0
 ·cases l with
  |o i p=>simp[er,h1]
  |_=>simp[qt]at h2
theorem fq.er{G:Gh}{w:World}{t:T}{c:Value}(h:fq G.q w t c):fq (er G.ω) w t c:=
 by
 induction h with
 |c h=>exact .c h
 |nil=>exact .nil
 |l hw hc hb bC h1 h2 ih=>exact .l hw hc (Ri hb) bC h1 ih
theorem yq{w:World}{b:Nat}{arr:Array Value}{elem:TypeId}{fz:Nat×Nat}(h:w.heap[b]?=some (.cells arr elem fz))(off:Nat):
  w.cell? ⟨b,off,none⟩=arr[off]?:=by
 simp[World.cell?,h]
theorem Qe{w:World}{b:Nat}{o:Obj}(h:w.heap[b]?=some o):b<w.heap.size:=(Array.getElem?_eq_some_iff.1 h).1
theorem xe{xs:List (List T)}{i j:Nat}{t:T}(h:eg xs i j=some t):∃r,xs[i]?=some r∧r∈xs∧r[j]?=some t∧i<xs.length∧j<r.length:=by
 unfold eg at h
 cases hr:xs[i]? with
 |none=>simp[hr]at h
 |some r=>
  simp[hr]at h
  exact⟨r,rfl,List.mem_of_getElem? hr,h,(List.getElem?_eq_some_iff.1 hr).1,(List.getElem?_eq_some_iff.1 h).1⟩
theorem fG.den{G:Gh}{w:World}{id:Nat}{dp:Bool}{p:List (Nat×Nat)}{t:T}(h:fG G w id dp p t):fq (er G.ω) w t (G.H id p):=by
 induction h with
 |nil h=>rw[h];exact .nil
 | @l dp p xs b wd cap arr elem cv h1 h2 h3 h4 h5 h6 h7 h8 h9 nX _ ih=>
  rw[h1]
  refine .l (cv:=cv) h6 h2.1 (by simp[er,h3]) (Qe h4) (λi j t ht=>?_) λi j t ht=>?_
  ·rw[yq h4,Nat.zero_add];exact h7 i j t ht
  ·cases t with
   |c v=>obtain⟨hv,hs⟩:=h8 i j v ht;rw[hv];exact .c hs
   |l ys=>
    cases hd:dp with
    |false=>exact(h9 i j ys ht hd).er
    |true=>rw[nX i j ys ht hd];exact ih i j ys ht hd
theorem fG.Rk{G:Gh}{w:World}{id:Nat}{dp:Bool}{p:List (Nat×Nat)}{t:T}(h:fG G w id dp p t)(hi:id%4=2∨(id%2=0∧p≠[]))(g_:dp=true):fq G.q w t (G.H id p):=by
 induction h with
 |nil h=>rw[h];exact .nil
 | @l dp p xs b wd cap arr elem cv h1 h2 h3 h4 h5 h6 h7 h8 h9 nX xf ih=>
  rw[h1]
  refine .l (cv:=cv) h6 h2.1 (Re h3 (hi.elim JI λh=>wb h.1 h.2)) (Qe h4) (λi j t ht=>?_) λi j t ht=>?_
  ·rw[yq h4,Nat.zero_add];exact h7 i j t ht
  ·cases t with
   |c v=>obtain⟨hv,hs⟩:=h8 i j v ht;rw[hv];exact .c hs
   |l ys=>rw[nX i j ys ht g_];exact ih i j ys ht g_ (hi.imp_right λh=>⟨h.1,by simp⟩) rfl
theorem fG.lF{G:Gh}{w:World}{id:Nat}:∀(q:List (Nat×Nat)) {p:List (Nat×Nat)} {t u:T},fG G w id true p t->jh q t=some u->(∃ys,u=.l ys)->
  fG G w id true (p++q) u
 | [],p,t,u,h,hd,_=>by simp only[jh]at hd;cases hd;simpa using h
 |(i,j)::q,p,t,u,h,hd,hu=>by
  cases h with
  |nil=>simp[jh,eg]at hd
  | @l _ _ xs b wd cap arr elem cv h1 h2 h3 h4 h5 h6 h7 h8 h9 nX xf=>
   simp only[jh]at hd
   cases ha:eg xs i j with
   |none=>simp[ha]at hd
   |some v=>
    simp only[ha,Option.bind_some]at hd
    cases v with
    |c v=>
     cases q with
     |nil=>simp[jh]at hd;obtain⟨ys,rfl⟩:=hu;cases hd
     |cons a q=>simp[jh]at hd
    |l ys=>
     have:=fG.lF q (xf i j ys ha rfl) hd hu
     simpa using this
theorem Wk.ek{k k':Wk}{c:Ce}{x:Lf}(h:k.val c=some (k',x)):k.fB k':=by
 cases c with
 |p y=>simp[Wk.val]at h;obtain⟨rfl,_⟩:=h;exact .refl _
 |n=>simp[Wk.val]at h;obtain⟨rfl,_⟩:=h;exact .refl _
 |d=>simp[Wk.val]at h
 |o id q=>
  simp only[Wk.val]at h
  split at h
  ·simp only[bP]at h
   have e1:=congrArg Prod.fst h
   simp only at e1
   subst e1
   exact Wk.fT q k _
  ·split at h
   ·simp at h;obtain⟨rfl,_⟩:=h;exact .refl _
   ·cases h
  ·split at h
   ·simp at h;obtain⟨rfl,_⟩:=h;exact .refl _
   ·cases h
  ·split at h
   ·simp at h;obtain⟨rfl,_⟩:=h;exact .refl _
   ·cases h
  ·cases h
theorem Wk.mb{k k':Wk}{c:Ce}{x:Lf}(h:k.val c=some (k',x))(hd:k'.bT S ρ):k.bT S ρ:=by
 cases c with
 |p y=>simp[Wk.val]at h;obtain⟨rfl,_⟩:=h;exact hd
 |n=>simp[Wk.val]at h;obtain⟨rfl,_⟩:=h;exact hd
 |d=>simp[Wk.val]at h
 |o id q=>
  simp only[Wk.val]at h
  split at h
  ·simp only[bP]at h
   have e1:=congrArg Prod.fst h
   simp only at e1
   subst e1
   exact Wk.lI q _ _ hd
  ·split at h
   ·simp at h;obtain⟨rfl,_⟩:=h;exact hd
   ·cases h
  ·split at h
   ·simp at h;obtain⟨rfl,_⟩:=h;exact hd
   ·cases h
  ·split at h
   ·simp at h;obtain⟨rfl,_⟩:=h;exact hd
   ·cases h
  ·cases h
theorem Wk.lJ{k k':Wk}{c:Ce}{x:Lf}{G:Gh}{w:World}{v:Value}(h:k.val c=some (k',x))(hd:k'.bT S ρ)
  (hr:gD G w ρ c v)(ho:∀id,id∈dZ [c]->cS G w ρ id (k.get (.o id))):∃t,x.gh ρ=some t∧fq (er G.ω) w t v:=by
 cases c with
 |p y=>simp[Wk.val]at h;obtain⟨_,rfl⟩:=h;obtain⟨t,h1,h2⟩:=hr;exact⟨t,h1,h2.er⟩
 |n=>simp[Wk.val]at h;obtain⟨_,rfl⟩:=h;cases hr;exact⟨_,rfl,.nil⟩
 |d=>simp[Wk.val]at h
 |o id q=>
  have eU:=ho id (by simp[dZ])
  obtain⟨p,hp,rfl⟩:=hr
  simp only[Wk.val]at h
  split at h
  ·rename_i y hk
   simp only[hk,cS]at eU
   obtain⟨t,ht,b8⟩:=eU
   simp only[bP]at h
   have e1:=congrArg Prod.fst h
   have e2:=congrArg Prod.snd h
   simp only at e1 e2
   subst e1 e2
   have hl:∃ys,t=.l ys:=by cases b8<;>exact⟨_,rfl⟩
   obtain⟨u,hu,hxu,kW⟩:=Wk.jq q k y hd ht (tU hp) (.inr hl)
   refine⟨u,hxu,?_⟩
   have Rl:∃ys,u=.l ys:=by
    rcases kW with rfl|h'
    ·simp only[mB]at hp;cases hp;simp[jh]at hu;subst hu;exact hl
    ·exact h'
   have:=(fG.lF p b8 hu Rl).den
   simpa using this
  ·rename_i y hk
   split at h
   ·simp at h
    obtain⟨_,rfl⟩:=h
    simp only[hk,cS]at eU
    obtain⟨t,ht,b8⟩:=eU
    simp only[mB]at hp;cases hp
    exact⟨t,ht,b8.den⟩
   ·cases h
  ·rename_i y hk
   split at h
   ·simp at h
    obtain⟨_,rfl⟩:=h
    simp only[hk,cS]at eU
    obtain⟨t,ht,b8,_⟩:=eU
    simp only[mB]at hp;cases hp
    exact⟨t,ht,b8.er⟩
   ·cases h
  ·rename_i y hk
   split at h
   ·simp at h
    obtain⟨_,rfl⟩:=h
    simp only[hk,cS]at eU
    obtain⟨_,t,ht,b8⟩:=eU
    simp only[mB]at hp;cases hp
    exact⟨t,ht,b8.den⟩
   ·cases h
  ·cases h
end
section
variable {M:Nat->Prop} {B:ft} {d:Nat} {up:Nat->Nat->Value} {s:St} {ρ:List T} {G:Gh} {a:Act} {w:World}
theorem Rel.forget(h:Rel M B d up s ρ G a w){s':St}(hs:∀r,s'.get r=s.get r∨s'.get r=.un):Rel M B d up s' ρ G a w:=by
 refine⟨λe n he=>?_,λb=>?_,λi=>?_,λr i hi=>?_,λi hi=>?_,h.iP,h.dn,h.base,h.bt⟩
 ·rcases hs (.t e n)with hr|hr
  ·rw[hr];exact h.tm e n he
  ·rw[hr];trivial
 ·rcases hs (.x b)with hr|hr
  ·rw[hr];exact h.bx b
  ·rw[hr];trivial
 ·rcases hs (.o i)with hr|hr
  ·rw[hr];exact h.ob i
  ·rw[hr];trivial
 ·rcases hs r with hr|hr
  ·rw[hr]at hi;exact h.gA r i hi
  ·rw[hr]at hi;simp[dI]at hi
 ·refine h.key i ?_
  rcases hi with hi|hi
  ·rcases hs (.x i)with hr|hr
   ·exact .inl (hr▸hi)
   ·exact absurd hr hi
  ·rcases hs (.o i)with hr|hr
   ·exact .inr (hr▸hi)
   ·exact absurd hr hi
theorem Rel.congr(h:Rel M B d up s ρ G a w){s':St}(hs:∀r,s'.get r=s.get r):Rel M B d up s' ρ G a w:=h.forget λr=>.inl (hs r)
def Gh.free(G:Gh)(id:Nat)(all:Bool):Gh:=
 {G with ω:=λb=>match G.ω b with
   |some (.o i p)=>if i=id∧(all=true∨p≠[])then none else some (.o i p)
   |l=>l}
theorem Gh.j8{G:Gh}{id b:Nat}{all:Bool}(h:G.ω b=none):(G.free id all).ω b=none:=by simp[Gh.free,h]
theorem Gh.tW{G:Gh}{id b i:Nat}{p:List (Nat×Nat)}{all:Bool}(h:G.ω b=some (.o i p))(hi:i=id)(ha:all=true∨p≠[]):(G.free id all).ω b=none:=by
 simp only[Gh.free,h]
 rw[if_pos ⟨hi,ha⟩]
theorem Gh.r7{G:Gh}{id b:Nat}{all:Bool}(h:G.q b=none):(G.free id all).q b=none:=by
 refine tT h Gh.j8 λl hl hq=>?_
 cases l with
 |o i p=>
  simp only[Gh.free,hl]
  split
  ·exact .inl rfl
  ·exact .inr ⟨_,rfl,hq⟩
 |_=>simp[qt]at hq
theorem Gh.fU(G:Gh)(id:Nat)(all:Bool)(w:World):dM (λl=>∃p,l=.o id p) (λ_=>False) G w (G.free id all) w:=by
 refine⟨Nat.le_refl _,λb _ hb=>⟨Gh.r7 hb,rfl⟩,λb _ hb=>Gh.j8 hb,λb l hb hl=>⟨?_,rfl⟩,λ_ _=>⟨rfl,λ_ _=>rfl⟩⟩
 cases l with
 |f=>simp[Gh.free,hb]
 |x i=>simp[Gh.free,hb]
 |o i p=>
  have:i≠id:=λe=>hl ⟨p,by rw[e]⟩
  simp[Gh.free,hb,this]
theorem fG.A2{id:Nat}{p:List (Nat×Nat)}{t:T}{dp:Bool}(h:fG G w id dp p t)(hp:p≠[])(g_:dp=true):fq (G.free id false).q w t (G.H id p):=by
 induction h with
 |nil h=>rw[h];exact .nil
 | @l dp p xs b wd cap arr elem cv h1 h2 h3 h4 h5 h6 h7 h8 h9 nX xf ih=>
  rw[h1]
  refine .l (cv:=cv) h6 h2.1 (AY (Gh.tW h3 rfl (.inr hp))) (Qe h4) (λi j t ht=>?_) λi j t ht=>?_
  ·rw[yq h4,Nat.zero_add];exact h7 i j t ht
  ·cases t with
   |c v=>obtain⟨hv,hs⟩:=h8 i j v ht;rw[hv];exact .c hs
   |l ys=>rw[nX i j ys ht g_];exact ih i j ys ht g_ (by simp) rfl
theorem fG.xg{id:Nat}{p:List (Nat×Nat)}{t:T}{dp:Bool}(h:fG G w id dp p t):fq (G.free id true).q w t (G.H id p):=by
 induction h with
 |nil h=>rw[h];exact .nil
 | @l dp p xs b wd cap arr elem cv h1 h2 h3 h4 h5 h6 h7 h8 h9 nX xf ih=>
  rw[h1]
  refine .l (cv:=cv) h6 h2.1 (AY (Gh.tW h3 rfl (.inl rfl))) (Qe h4) (λi j t ht=>?_) λi j t ht=>?_
  ·rw[yq h4,Nat.zero_add];exact h7 i j t ht
  ·cases t with
   |c v=>obtain⟨hv,hs⟩:=h8 i j v ht;rw[hv];exact .c hs
   |l ys=>
    cases hd:dp with
    |false=>exact(h9 i j ys ht hd).bw (Nat.le_refl _) λb _ hb=>⟨Gh.r7 hb,rfl⟩
    |true=>rw[nX i j ys ht hd];exact ih i j ys ht hd
theorem Rel.mj(h:Rel M B d up s ρ G a w){id:Nat}{dp:Bool}{x:Lf}(hx:s.get (.o id)=.ob dp x):
  Rel M B d up (s.set (.o id) (.fz .z x)) ρ (G.free id true) a w:=by
 have k:=G.fU id true w
 have hg:∀r,r≠.o id->(s.set (.o id) (.fz .z x)).get r=s.get r:=λr hr=>St.eT _ _ (Ne.symm hr)
 refine⟨λe n he=>?_,λb=>?_,λi=>?_,λr i hi=>?_,λi hi=>?_,λb l hb=>?_,h.dn,?_,h.bt⟩
 ·rw[hg _ (by simp)];exact(h.tm e n he).bw k λ_ _ hn=>hn
 ·rw[hg _ (by simp)]
  exact(h.bx b).bw k (λ⟨p,hp⟩=>by cases hp) (λhn=>hn) λ_ _ hn=>hn
 ·by_cases hi:i=id
  ·subst hi
   rw[St.cw]
   obtain⟨t,ht,ho⟩:=(by simpa only[hx]using h.ob i:cS G w ρ i (.ob dp x))
   exact⟨t,ht,ho.xg,trivial⟩
  ·rw[hg _ (by simpa using hi)];exact(h.ob i).bw k (λp ⟨q,hq⟩=>hi (by cases hq;rfl)) (λhn=>hn) λ_ _ hn=>hn
 ·by_cases hr:r=.o id
  ·subst hr;rw[St.cw]at hi;simp[dI]at hi
  ·rw[hg r hr]at hi;exact h.gA r i hi
 ·refine h.key i ?_
  rcases hi with hi|hi
  ·exact .inl (by rwa[hg _ (by simp)]at hi)
  ·by_cases qV:i=id
   ·subst qV;exact .inr (by rw[hx];simp)
   ·exact .inr (by rwa[hg _ (by simpa using qV)]at hi)
 ·refine h.iP b l ?_
  simp only[Gh.free]at hb
  split at hb
  ·split at hb
   ·cases hb
   ·rename_i hw _;rw[hw];exact hb
  ·exact hb
 ·refine⟨h.base.os,h.base.tape,h.base.output,h.base.size,λb hb h0=>?_,λb hb=>?_,h.base.gl⟩
  ·obtain⟨h1,h2⟩:=h.base.free b hb h0
   exact⟨Gh.j8 h1,h2⟩
  ·obtain⟨h1,h2⟩:=h.base.DR b hb
   exact⟨by simp[Gh.free,h1],h2⟩
theorem Rel.flat(h:Rel M B d up s ρ G a w){id:Nat}{dp:Bool}{x:Lf}(hx:s.get (.o id)=.ob dp x):
  Rel M B d up (s.set (.o id) (.ob false x)) ρ (G.free id false) a w:=by
 have k:=G.fU id false w
 have hg:∀r,r≠.o id->(s.set (.o id) (.ob false x)).get r=s.get r:=λr hr=>St.eT _ _ (Ne.symm hr)
 refine⟨λe n he=>?_,λb=>?_,λi=>?_,λr i hi=>?_,λi hi=>?_,λb l hb=>?_,h.dn,?_,h.bt⟩
 ·rw[hg _ (by simp)];exact(h.tm e n he).bw k λ_ _ hn=>hn
 ·rw[hg _ (by simp)]
  exact(h.bx b).bw k (λ⟨p,hp⟩=>by cases hp) (λhn=>hn) λ_ _ hn=>hn
 ·by_cases hi:i=id
  ·subst hi
   rw[St.cw]
   obtain⟨t,ht,ho⟩:=(by simpa only[hx]using h.ob i:cS G w ρ i (.ob dp x))
   refine⟨t,ht,?_⟩
   cases ho with
   |nil h=>exact .nil h
   | @l _ _ xs b wd cap arr elem cv h1 h2 h3 h4 h5 h6 h7 h8 h9 nX xf=>
    refine .l (cv:=cv) h1 h2 (by simp[Gh.free,h3]) h4 h5 h6 h7 h8 (λp j ys hy _=>?_) (λ_ _ _ _ hf=>by cases hf) (λ_ _ _ _ hf=>by cases hf)
    cases hd:dp with
    |false=>exact(h9 p j ys hy hd).bw (Nat.le_refl _) λb _ hb=>⟨Gh.r7 hb,rfl⟩
    |true=>rw[nX p j ys hy hd];exact(xf p j ys hy hd).A2 (by simp) rfl
  ·rw[hg _ (by simpa using hi)];exact(h.ob i).bw k (λp ⟨q,hq⟩=>hi (by cases hq;rfl)) (λhn=>hn) λ_ _ hn=>hn
 ·by_cases hr:r=.o id
  ·subst hr;rw[St.cw]at hi;simp[dI]at hi
  ·rw[hg r hr]at hi;exact h.gA r i hi
 ·refine h.key i ?_
  rcases hi with hi|hi
  ·exact .inl (by rwa[hg _ (by simp)]at hi)
  ·by_cases qV:i=id
   ·subst qV;exact .inr (by rw[hx];simp)
   ·exact .inr (by rwa[hg _ (by simpa using qV)]at hi)
 ·refine h.iP b l ?_
  simp only[Gh.free]at hb
  split at hb
  ·split at hb
   ·cases hb
   ·rename_i hw _;rw[hw];exact hb
  ·exact hb
 ·refine⟨h.base.os,h.base.tape,h.base.output,h.base.size,λb hb h0=>?_,λb hb=>?_,h.base.gl⟩
  ·obtain⟨h1,h2⟩:=h.base.free b hb h0
   exact⟨Gh.j8 h1,h2⟩
  ·obtain⟨h1,h2⟩:=h.base.DR b hb
   exact⟨by simp[Gh.free,h1],h2⟩
end
def we:List Ce->List Value->Bool
 | [],[]=>true
 | .p (.k (.int k n))::cs,.int k' n'::vs=>decide (k=k')&&decide (n=n')&&we cs vs
 | .p (.k (.bool b))::cs,.bool b'::vs=>decide (b=b')&&we cs vs
 | .p (.k (.string x))::cs,.string x'::vs=>decide (x=x')&&we cs vs
 | .n::cs,.slice none 0 0::vs=>we cs vs
 |_,_=>false
def yr(P:Program):List (Nat×Nat)->List Field->Bool
 | [],[]=>true
 |o::os,f::fs=>Nat.beq f.offset o.1&&(match P.info? f.type with|some i=>!Nat.beq i.size 0&&Nat.beq i.size o.2|none=>false)&&yr P os fs
 |_,_=>false
def r8(P:Program):Nat->List Ce->List Field->Bool
 |_,[],[]=>true
 |i,z::zs,f::fs=>Nat.beq f.offset i&&decide (f.name≠"_")&&(match P.underlying f.type with|some (.int _)=>Nat.beq (ml z) 1|some .bool=>Nat.beq (ml z) 4|some .string=>Nat.beq (ml z) 2|_=>false)&&r8 P (i+1) zs fs
 |_,_,_=>false
def tyB(P:Program)(t:Nat)(ti:TI):Bool:=
 match P.info? t,P.underlying t with
 |some i,some u=>
  Nat.beq i.size ti.sz&&Nat.beq i.bytes ti.bytes&&(match i.zero with|some z=>we ti.zero z.cells.toList|none=>false)&&Nat.beq ti.zero.length ti.sz&&
  (match u with
   | .struct fs=>ti.ag&&(Nat.beq ti.kd 0||(Nat.beq ti.kd 5&&Nat.beq fs.size ti.sz&& !P.stoodInHeld t&& !P.eqGuardType P.depth t&&r8 P 0 ti.zero fs.toList))&&yr P ti.fs fs.toList
   | .array ..=>false
   | .slice e=>!ti.ag&&Nat.beq ti.sz 1&&Nat.beq ti.kd 3&&Nat.beq e ti.el&&ti.fs.isEmpty
   | .int kk=>!ti.ag&&Nat.beq ti.sz 1&&Nat.beq ti.kd 1&&(match ti.zero with| [.p (.k (.int k' _))]=>decide (kk=k')|_=>false)&&ti.fs.isEmpty
   | .string=>!ti.ag&&Nat.beq ti.sz 1&&Nat.beq ti.kd 2&&ti.fs.isEmpty
   | .bool=>!ti.ag&&Nat.beq ti.sz 1&&Nat.beq ti.kd 4&&ti.fs.isEmpty
   |_=>!ti.ag&&Nat.beq ti.sz 1&&Nat.beq ti.kd 0&&ti.fs.isEmpty)
 |_,_=>false
def A3:List Ce->List Value->Prop
 | [],[]=>True
 | .p (.k v)::cs,v'::vs=>v=v'∧kV v=true∧A3 cs vs
 | .n::cs,v::vs=>v=.slice none 0 0∧A3 cs vs
 |_,_=>False
theorem afB:∀{cs:List Ce} {vs:List Value},we cs vs=true->A3 cs vs:=by
 intro cs
 induction cs with
 |nil=>intro vs h;cases vs<;>simp_all[we,A3]
 |cons c cs ih=>
  intro vs h
  cases vs with
  |nil=>cases c<;>simp_all[we]
  |cons v vs=>
   cases c with
   |p x=>
    cases x with
    |k u=>
     cases u<;>cases v<;>simp_all[we,A3,kV]
    |a n=>simp[we]at h
    |e=>simp[we]at h
   |o id q=>simp[we]at h
   |n=>
    cases v with
    |slice a l c=>
     unfold we at h
     split at h<;>simp_all[A3]
    |_=>simp[we]at h
   |d=>simp[we]at h
structure tX (P:Program) (t:Nat) (ti:TI):Prop where
 info:∃i z,P.info? t=some i∧i.size=ti.sz∧i.bytes=ti.bytes∧i.zero=some z∧A3 ti.zero z.cells.toList
 EY:ti.zero.length=ti.sz
 one:ti.ag=false->ti.sz=1
 ag:∃u,P.underlying t=some u∧(ti.ag=true↔∃fs,u=.struct fs)∧(∀n e,u≠.array n e)
 sl:ti.kd=3->P.underlying t=some (.slice ti.el)
 it:ti.kd=1->∃k,P.underlying t=some (.int k)
 st:ti.kd=2->P.underlying t=some .string
 ik:ti.kd=1->∀k n,ti.zero=[.p (.k (.int k n))]->P.underlying t=some (.int k)
 bo:ti.kd=4->P.underlying t=some .bool
 ni:ti.kd≠1->∀k,P.underlying t≠some (.int k)
 fs:∀(f:Nat) (o:Nat×Nat),ti.fs[f]?=some o->∃(fs:Array Field) (z':Field) (i:TypeInfo),P.underlying t=some (.struct fs)∧fs[f]?=some z'∧z'.offset=o.1∧P.info? z'.type=some i∧i.size≠0∧i.size=o.2
 fl:∀fs,P.underlying t=some (.struct fs)->fs.size=ti.fs.length
 eq:ti.kd=5->∃fs:Array Field,P.underlying t=some (.struct fs)∧fs.size=ti.sz∧P.stoodInHeld t=false∧P.eqGuardType P.depth t=false∧r8 P 0 ti.zero fs.toList=true
theorem JL{P:Program}:∀{os:List (Nat×Nat)} {fs:List Field},yr P os fs=true->fs.length=os.length∧∀(f:Nat) (o:Nat×Nat),os[f]?=some o->
  ∃(z':Field) (i:TypeInfo),fs[f]?=some z'∧z'.offset=o.1∧P.info? z'.type=some i∧i.size≠0∧i.size=o.2
 | [],[],_=>⟨rfl,λf o h=>by simp at h⟩
 | [],_::_,h=>by simp[yr]at h
 |o::os,[],h=>by simp[yr]at h
 |o::os,fl::fs,h=>by
  simp only[yr,bL]at h
  obtain⟨⟨h1,h2⟩,h3⟩:=h
  obtain⟨hl,hr⟩:=JL h3
  refine⟨by simp[hl],λf o' hf=>?_⟩
  cases f with
  |zero=>
   simp at hf
   subst hf
   cases hi:P.info? fl.type with
   |none=>simp[hi]at h2
   |some i=>
    simp only[hi,bL]at h2
    exact⟨fl,i,rfl,ew h1,hi,λe=>by simp[e]at h2,ew h2.2⟩
  |succ f=>exact hr f o' (by simpa using hf)
theorem afC{P:Program}{t:Nat}{ti:TI}(h:tyB P t ti=true):tX P t ti:=by
 unfold tyB at h
 split at h
 ·rename_i i u hi hu
  simp only[bL]at h
  obtain⟨⟨⟨⟨h1,h2⟩,h3⟩,h4⟩,h5⟩:=h
  have z:∃z,i.zero=some z∧A3 ti.zero z.cells.toList:=by
   split at h3
   ·rename_i z hz;exact⟨z,hz,afB h3⟩
   ·cases h3
  obtain⟨z,hz,yu⟩:=z
  refine⟨⟨i,z,hi,ew h1,ew h2,hz,yu⟩,ew h4,?_,⟨u,hu,?_,?_⟩,?_,?_,?_,?_,?_,?_,?_,?_,?_⟩
  ·intro ha;split at h5<;>simp_all
  ·split at h5<;>simp_all
  ·intro n e dU;subst dU;simp at h5
  ·intro hk;rw[hu];split at h5<;>simp_all
  ·intro hk;rw[hu];split at h5<;>simp_all
  ·intro hk;rw[hu];split at h5<;>simp_all
  ·intro hk k n hz
   rw[hu]
   rw[hz,hk]at h5
   split at h5
   ·simp only[bL,Bool.or_eq_true]at h5
    obtain⟨⟨_,h6⟩,_⟩:=h5
    rcases h6 with h6|⟨⟨⟨⟨h6,_⟩,_⟩,_⟩,_⟩<;>exact absurd h6 (by decide)
   ·cases h5
   ·simp only[bL]at h5
    exact absurd h5.1.1.2 (by decide)
   ·simp only[bL,decide_eq_true_eq]at h5
    rw[h5.1.2]
   all_goals
    simp only[bL]at h5
    exact absurd h5.1.2 (by decide)
  ·intro hk;rw[hu];split at h5<;>simp_all
  ·intro hk k dU;rw[hu]at dU;cases dU;simp at h5;exact hk h5.1.1.2
  ·intro f o hf
   rw[hu]
   split at h5
   ·rename_i fs
    simp only[bL]at h5
    obtain⟨z',i',h6,h7⟩:=(JL h5.2).2 f o hf
    exact⟨fs,z',i',rfl,by simpa using h6,h7⟩
   ·cases h5
   all_goals
    simp only[bL,List.isEmpty_iff]at h5
    rw[h5.2]at hf
    simp at hf
  ·intro fs vd
   rw[hu]at vd
   cases vd
   simp only[bL]at h5
   have:=(JL h5.2).1
   simpa using this
  ·intro hk
   rw[hu]
   split at h5
   ·rename_i fs
    simp only[bL,Bool.or_eq_true,Bool.not_eq_true']at h5
    obtain⟨⟨_,h6⟩,_⟩:=h5
    rcases h6 with h6|⟨⟨⟨⟨_,h7⟩,h8⟩,h9⟩,nX⟩
    ·have:=ew h6;omega
    ·exact⟨fs,rfl,ew h7,h8,h9,nX⟩
   ·cases h5
   all_goals
    simp[hk]at h5
 ·cases h
section
variable {M:Nat->Prop} {B:ft} {d:Nat} {up:Nat->Nat->Value} {ρ:List T} {G:Gh} {a:Act} {w:World} {S:Nat->aA}
structure dL (M:Nat->Prop) (B:ft) (d:Nat) (up:Nat->Nat->Value) (ρ:List T) (G:Gh) (a:Act) (w:World) (k:Wk) (G1:Gh):Prop where
 rel:Rel M B d up (k.r.fS k.w) ρ G1 a w
 bw:dM (oQ k.w) (λ_=>False) G w G1 w
theorem Wk.bn(k:Wk)(r:bN):k.get r=(k.r.fS k.w).get r:=by
 rw[St.bn]
 unfold Wk.get
 cases k.w.look r<;>rfl
theorem Iq{W:St}{r:bN}{v:SV}{l:Lb}(h:oQ W l):oQ (W.set r v) l:=by
 cases l with
 |f=>exact h
 |x b=>
  show(W.set r v).look (.x b)≠none
  by_cases hr:r=.x b
  ·subst hr;rw[St.bI];simp
  ·rw[St.cN _ _ hr];exact h
 |o i p=>
  show(W.set r v).look (.o i)≠none
  by_cases hr:r=.o i
  ·subst hr;rw[St.bI];simp
  ·rw[St.cN _ _ hr];exact h
theorem Ir(s W:St)(r:bN)(v:SV)(r':bN):(s.fS (W.set r v)).get r'=((s.fS W).set r v).get r':=by
 rw[St.bn]
 by_cases h:r=r'
 ·subst h;rw[St.bI,St.cw];rfl
 ·rw[St.cN _ _ h,St.eT _ _ h,St.bn]
theorem dL.start{s:St}(h:Rel M B d up s ρ G a w)(R:List bN)(ct:Ct):dL M B d up ρ G a w ⟨s.only R,[],ct,[]⟩ G:=by
 refine⟨h.forget λr=>?_,(dM.refl G w).mono (λ_ h=>h.elim) λ_ h=>h⟩
 by_cases hr:r∈R
 ·exact .inl (St.A0 s R hr)
 ·exact .inr (St.rZ s R hr)
theorem dL.same{k k':Wk}{G1:Gh}(h:dL M B d up ρ G a w k G1)(hs:k.fB k'):dL M B d up ρ G a w k' G1:=by
 obtain⟨h1,h2,h3⟩:=hs
 exact⟨by rw[h1,h2];exact h.rel,by rw[h2];exact h.bw⟩
theorem dL.obj{k:Wk}{G1:Gh}(h:dL M B d up ρ G a w k G1)(id:Nat):cS G1 w ρ id (k.get (.o id)):=by
 rw[Wk.bn];exact h.rel.ob id
theorem dL.mj{k k':Wk}{G1:Gh}(h:dL M B d up ρ G a w k G1){id:Nat}(hk:k.mj id=some k'):
  ∃G2,dL M B d up ρ G a w k' G2∧G2.β=G1.β∧G2.H=G1.H∧k'.r=k.r∧k'.ct=k.ct∧k'.is=k.is:=by
 unfold Wk.mj at hk
 split at hk
 ·rename_i dp x hx
  cases hk
  rw[Wk.bn]at hx
  refine⟨_,⟨(h.rel.mj hx).congr (Ir _ _ _ _),(h.bw.mono (λl hl=>Iq hl) λ_ hn=>hn).trans ((G1.fU id true w).mono ?_ λ_ hn=>hn)⟩,rfl,rfl,rfl,rfl,rfl⟩
  rintro l ⟨p,rfl⟩
  show(k.w.set _ _).look (.o id)≠none
  rw[St.bI];simp
 ·cases hk;exact⟨G1,h,rfl,rfl,rfl,rfl,rfl⟩
 ·cases hk
theorem dL.flat{k k':Wk}{G1:Gh}(h:dL M B d up ρ G a w k G1){id:Nat}(hk:k.flat id=some k'):
  ∃G2,dL M B d up ρ G a w k' G2∧G2.β=G1.β∧G2.H=G1.H∧k'.r=k.r∧k'.ct=k.ct∧k'.is=k.is:=by
 unfold Wk.flat at hk
 split at hk
 ·rename_i dp x hx
  cases hk
  rw[Wk.bn]at hx
  refine⟨_,⟨(h.rel.flat hx).congr (Ir _ _ _ _),(h.bw.mono (λl hl=>Iq hl) λ_ hn=>hn).trans ((G1.fU id false w).mono ?_ λ_ hn=>hn)⟩,rfl,rfl,rfl,rfl,rfl⟩
  rintro l ⟨p,rfl⟩
  show(k.w.set _ _).look (.o id)≠none
  rw[St.bI];simp
 ·cases hk;exact⟨G1,h,rfl,rfl,rfl,rfl,rfl⟩
 ·cases hk
def b_(P:Program)(M:Nat->Prop)(B:ft)(d:Nat)(up:Nat->Nat->Value)(ρ:List T)(a:Act)(w:World)(s:St)(o:Oper)(W:St)(Q:Exit->Act->World->Prop):Prop:=
 o.wp P a w (λa' w'=>∃G',Rel M B d up (s.fS W) ρ G' a' w'∧a'.tmps.size=a.tmps.size) Q
theorem A4(a:Act)(dst:Option Nat)(v:Value):(a.put dst v).tmps.size=a.tmps.size:=by
 cases dst<;>simp[Act.put]
theorem afD{P:Program}{s:St}{k:Wk}{G1:Gh}(h:Rel M B d up s ρ G a w)(hk:dL M B d up ρ G a w k G1){o:Oper}{n:Nat}(ho:o.dst=some n)(hn:n<a.tmps.size)
  {v:Value}(hx:(execOp a.eval o).run P w=.ok (.value v) w){x:SV}(hv:cR G1 w ρ x v)(hm:∀i∈dI x,M i)(Q:Exit->Act->World->Prop):
  b_ P M B d up ρ a w s o (k.w.set (.t d n) x) Q:=by
 simp only[b_,Oper.wp,hx,Oper.upon,ho]
 refine⟨G1,h.glue (s':=k.r) (hk.bw.mono (λl hl=>Iq hl) λ_ hf=>hf) (λ_ hf=>hf.elim) (λ_ hm=>hm) ?_ ?_,A4 _ _ _⟩
 ·intro m Aa;cases Aa;rw[St.bI];simp
 ·exact(hk.rel.EW hn hv hm).congr (Ir _ _ _ _)
theorem afE{P:Program}{s:St}{k:Wk}{G1:Gh}(h:Rel M B d up s ρ G a w)(hk:dL M B d up ρ G a w k G1){o:Oper}(ho:o.dst=none)
  {v:Value}(hx:(execOp a.eval o).run P w=.ok (.value v) w)(Q:Exit->Act->World->Prop):
  b_ P M B d up ρ a w s o k.w Q:=by
 simp only[b_,Oper.wp,hx,Oper.upon,ho]
 exact⟨G1,h.glue (s':=k.r) (dst:=none) (hk.bw.mono (λl hl=>hl) λ_ hf=>hf) (λ_ hf=>hf.elim) (λ_ hm=>hm) (λ_ hf=>by cases hf) hk.rel,rfl⟩
theorem afF{v:Value}:cR G w ρ (AK v) v:=by
 unfold AK
 split
 ·exact⟨_,rfl,rfl,λ_ h=>by cases h⟩
 ·rename_i dU
  cases hs:kV v with
  |false=>trivial
  |true=>
   refine⟨_,rfl,⟨.c v,by simp[Lf.gh,hs],.c hs⟩,λx h=>?_⟩
   subst h;simp[kV]at hs
theorem afG{v:Value}:dI (AK v)=[]:=by
 unfold AK
 split
 ·rfl
 ·cases kV v<;>rfl
theorem DS{s:St}(h:Rel M B d up s ρ G a w)(x:Operand):cR G w ρ (cB d s.get x) (a.eval x)∧∀i∈dI (cB d s.get x),M i:=by
 cases x with
 |tmp t=>
  refine⟨?_,h.gA _⟩
  have:=h.tm d t (Nat.le_refl _)
  simpa[oP,Act.eval,cB]using this
 |const v=>exact⟨afF,λi hi=>by simp[cB,afG]at hi⟩
 |global g=>exact⟨trivial,λi hi=>by simp[cB,dI]at hi⟩
 |func f=>exact⟨rfl,λi hi=>by simp[cB,dI]at hi⟩
theorem dL.ji{k:Wk}{G1:Gh}(h:dL M B d up ρ G a w k G1)(x:Operand):cR G1 w ρ (cB d k.get x) (a.eval x)∧∀i∈dI (cB d k.get x),M i:=by
 have e:cB d k.get x=cB d (k.r.fS k.w).get x:=by
  cases x with
  |tmp t=>exact Wk.bn _ _
  |_=>rfl
 rw[e];exact DS h.rel x
theorem Wk.iF{k k':Wk}{x:SV}{y:Lf}{G1:Gh}{v:Value}(hk:dL M B d up ρ G a w k G1)(h:k.one x=some (k',y))(hd:k'.bT S ρ)(hr:cR G1 w ρ x v):
  k.bT S ρ∧k.fB k'∧∃t,y.gh ρ=some t∧fq (er G1.ω) w t v:=by
 unfold Wk.one at h
 split at h
 ·obtain⟨e,he,hc,_⟩:=hr
  cases he
  exact⟨Wk.mb h hd,Wk.ek h,Wk.lJ h hd hc λid _=>hk.obj id⟩
 ·cases h
theorem fq.scalar{ω:Nat->Option Lb}{v u:Value}(h:fq ω w (.c v) u):u=v∧kV v=true:=by
 cases h with
 |c h=>exact⟨rfl,h⟩
theorem fq.rows{ω:Nat->Option Lb}{xs:List (List T)}{u:Value}(h:fq ω w (.l xs) u):∃b c,u=.slice b xs.length c∧(xs≠[]->xs.length<=c):=by
 cases h with
 |nil=>exact⟨_,_,rfl,λh=>absurd rfl h⟩
 |l _ hc=>exact⟨_,_,rfl,λ_=>hc⟩
end
section
variable {M:Nat->Prop} {B:ft} {d:Nat} {up:Nat->Nat->Value} {ρ:List T} {G:Gh} {a:Act} {w:World} {S:Nat->aA} {P:Program}
def cm(d:Nat)(o:Oper)(k:Wk)(v:SV):Wk:=match o.dst with|some n=>k.set (.t d n) v|none=>k
theorem r9{s:St}{k:Wk}{G1:Gh}(h:Rel M B d up s ρ G a w)(hk:dL M B d up ρ G a w k G1){o:Oper}(hn:∀n,o.dst=some n->n<a.tmps.size)
  {v:Value}(hx:(execOp a.eval o).run P w=.ok (.value v) w){x:SV}(hv:cR G1 w ρ x v)(hm:∀i∈dI x,M i)(Q:Exit->Act->World->Prop):
  b_ P M B d up ρ a w s o (cm d o k x).w Q:=by
 unfold cm
 cases ho:o.dst with
 |none=>exact afE h hk ho hx Q
 |some n=>exact afD h hk ho (hn n ho) hx hv hm Q
theorem Rm{G1:Gh}{y:Lf}{t:T}{v:Value}(hy:y.gh ρ=some t)(hd:fq G1.q w t v)(ha:∀x,v≠.agg x):cR G1 w ρ (.v false [.p y]) v:=
 ⟨_,rfl,⟨t,hy,hd⟩,ha⟩
theorem EZ{G1:Gh}{y:Lf}{v:Value}(hy:y.gh ρ=some (.c v))(hs:kV v=true):cR G1 w ρ (.v false [.p y]) v:=
 Rm hy (.c hs) λx hx=>by subst hx;simp[kV]at hs
theorem afH{op:BinOp}{t:TypeId}{x y:Operand}{u v r:Value}(h:jS op u v=some r):
  ((do eqGuard op t x y u v;binOp op t u v:Sem Value)).run P w=.ok r w∧kV r=true:=by
 cases u<;>cases v<;>simp only[jS]at h<;>try cases h
 ·rename_i k n k' m
  have hg:(eqGuard op t x y (.int k n) (.int k' m)).run P w=.ok () w:=by
   unfold eqGuard;split<;>rfl
  rw[Sem.run_bind,hg]
  cases op<;>simp only at h<;>(repeat' (split at h))<;>(try cases h)<;>
   simp_all[binOp,Op.intArith,Op.intDiv,Op.intCmp,Op.intBits,Op.shift,kV]<;>(intro axx;omega)
 ·rename_i s t'
  have hg:(eqGuard op t x y (.string s) (.string t')).run P w=.ok () w:=by
   unfold eqGuard;split<;>rfl
  rw[Sem.run_bind,hg]
  cases op<;>simp only at h<;>(try cases h)
  ·split at h
   ·rename_i hs
    cases h
    refine⟨?_,rfl⟩
    have:¬((s.size+t'.size:Nat):Int)>IntKind.i64.max:=by
     have:IntKind.i64.max=9223372036854775807:=by rfl
     simp only[uX]at hs
     omega
    simp only[Result.andThen_ok,binOp,Op.stringOp,if_neg this,Sem.run_pure]
   ·cases h
  ·exact⟨rfl,rfl⟩
  ·exact⟨rfl,rfl⟩
theorem afI{op:BinOp}{t:TypeId}{x y:Operand}{u v r:Value}(ht:P.underlying t=some .bool)(h:Jr op u v=some r):
  ((do eqGuard op t x y u v;binOp op t u v:Sem Value)).run P w=.ok r w∧kV r=true:=by
 cases u<;>cases v<;>simp only[Jr]at h<;>try cases h
 rename_i p q
 have hg:(eqGuard op t x y (.bool p) (.bool q)).run P w=.ok () w:=by
  unfold eqGuard;split<;>rfl
 have he:(Op.equal t (.bool p) (.bool q)).run P w=.ok (p==q) w:=by
  have key:∀n,(Op.equalIn (n+1) t (.bool p) (.bool q)).run P w=.ok (p==q) w:=λn=>by
   simp only[Op.equalIn,Sem.run_bind,run_underlying ht,Result.andThen_ok,Sem.run_pure]
  exact key 9999
 rw[Sem.run_bind,hg]
 cases op<;>simp only at h<;>(try cases h)
 ·simp[binOp,he,kV]
 ·simp[binOp,he,kV]
theorem afJ{op:UnOp}{u r:Value}(h:unV op u=some r):(Op.unary op u).run P w=.ok r w∧kV r=true:=by
 cases u<;>simp only[unV]at h<;>try cases h
 ·cases op<;>simp only at h<;>(try cases h)
  exact⟨rfl,rfl⟩
 ·cases op<;>simp only at h<;>(try cases h)
  exact⟨rfl,rfl⟩
theorem Rn{k k1 k2:Wk}{G1:Gh}{c e:Ce}{x y:Lf}{u v:Value}{p:Prim}(hk:dL M B d up ρ G a w k G1)
  (h1:k.val c=some (k1,x))(h2:k1.val e=some (k2,y))(hd:(k2.em p [x,y]).1.bT S ρ)(hc:gD G1 w ρ c u)(he:gD G1 w ρ e v):
  k.bT S ρ∧dL M B d up ρ G a w (k2.em p [x,y]).1 G1∧(k2.em p [x,y]).1.ct.i=k.ct.i∧∃t t' r,fq (er G1.ω) w t u∧fq (er G1.ω) w t' v∧p.ev [t,t']=some r∧(k2.em p [x,y]).2.gh ρ=some r:=by
 obtain⟨oR,r,hr,mc⟩:=Wk.cf hd
 have fV:=hk.same (Wk.ek h1)
 have dh:=fV.same (Wk.ek h2)
 have f_:=Wk.mb h2 oR
 obtain⟨t,ht,mC⟩:=Wk.lJ h1 f_ hc λid _=>hk.obj id
 obtain⟨t',jZ,mL⟩:=Wk.lJ h2 oR he λid _=>fV.obj id
 refine⟨Wk.mb h1 f_,dh.same (Wk.bX _ _ _),?_,t,t',r,mC,mL,?_,mc⟩
 ·rw[(Wk.bX k2 p [x,y]).i,(Wk.ek h2).i,(Wk.ek h1).i]
 ·simpa[Lf.cb ht,Lf.cb jZ]using hr
structure eZ (P:Program) (cx:Cx):Prop where
 ty:∀t ti,cx.ty t=some ti->tX P t ti
variable {cx:Cx} {df fP oi:Nat} {s:St} {R:List bN} {ct:Ct} {k':Wk} {o:Oper} {Q:Exit->Act->World->Prop}
theorem Ro(h:Rel M B d up s ρ G a w)(hn:∀n,o.dst=some n->n<a.tmps.size){x:Operand}(ho:o.op=.move x∨o.op=.assign x)
  (hk:jm cx df fP d o oi ⟨s.only R,[],ct,[]⟩=some k'):b_ P M B d up ρ a w s o k'.w Q∧k'.ct.i=ct.i:=by
 have hw:=dL.start h R ct
 have hx:(execOp a.eval o).run P w=.ok (.value (a.eval x)) w:=by
  unfold execOp;rcases ho with ho|ho<;>rw[ho]<;>rfl
 have dh:some (cm d o ⟨s.only R,[],ct,[]⟩ (cB d (Wk.get ⟨s.only R,[],ct,[]⟩) x))=some k':=by
  rw[<-hk];unfold jm cm;rcases ho with ho|ho<;>rw[ho]<;>rfl
 cases dh
 obtain⟨h1,h2⟩:=hw.ji x
 refine⟨r9 h hw hn hx h1 h2 Q,?_⟩
 unfold cm;cases o.dst<;>rfl
theorem dq{k:Wk}{v:SV}:(cm d o k v).bT S ρ↔k.bT S ρ:=by
 unfold cm;cases o.dst<;>rfl
theorem nk{k:Wk}{v:SV}:(cm d o k v).ct=k.ct:=by
 unfold cm;cases o.dst<;>rfl
theorem afK(ez:eZ P cx)(h:Rel M B d up s ρ G a w)(hn:∀n,o.dst=some n->n<a.tmps.size){op:BinOp}{t yt:TypeId}{x y:Operand}(ho:o.op=.binOp op t x y yt)
  {c e:Ce}(yv:cB d (Wk.get ⟨s.only R,[],ct,[]⟩) x=.v false [c])(E0:cB d (Wk.get ⟨s.only R,[],ct,[]⟩) y=.v false [e])
  (hk:jm cx df fP d o oi ⟨s.only R,[],ct,[]⟩=some k')(hd:k'.bT S ρ):b_ P M B d up ρ a w s o k'.w Q∧k'.ct.i=ct.i:=by
 have hw:=dL.start h R ct
 simp only[jm,ho,yv,E0,cU]at hk
 obtain⟨ti,gn,⟨k1,x1⟩,h1,⟨k2,y1⟩,h2,hk⟩:=hk
 have xh:=(hw.ji x).1
 have JM:=(hw.ji y).1
 rw[yv]at xh
 rw[E0]at JM
 obtain⟨_,oS,hc,_⟩:=xh
 obtain⟨_,he1,he,_⟩:=JM
 cases oS
 cases he1
 simp only at hk
 have hT:=ez.ty _ _ gn
 have fin:∀(p:Prim) (r:Value),(cm d o (k2.em p [x1,y1]).1 (.v false [.p (k2.em p [x1,y1]).2]))=k'->(execOp a.eval o).run P w=.ok (.value r) w->kV r=true->
   (k2.em p [x1,y1]).2.gh ρ=some (.c r)->dL M B d up ρ G a w (k2.em p [x1,y1]).1 G->(k2.em p [x1,y1]).1.ct.i=ct.i->b_ P M B d up ρ a w s o k'.w Q∧k'.ct.i=ct.i:=by
  intro p r hp hr hs hv ve hi
  subst hp
  refine⟨r9 h ve hn hr (EZ hv hs) (λi hi=>by simp[dI,dZ]at hi) Q,?_⟩
  rw[nk];exact hi
 have hex:∀r,((do eqGuard op t x y (a.eval x) (a.eval y);binOp op t (a.eval x) (a.eval y):Sem Value)).run P w=.ok r w->(execOp a.eval o).run P w=.ok (.value r) w:=by
  intro r hr
  unfold execOp
  rw[ho]
  show Sem.run P (do let v <-(do eqGuard op t x y (a.eval x) (a.eval y);binOp op t (a.eval x) (a.eval y):Sem Value);pure (Next.value v)) w=_
  rw[Sem.run_bind,hr];rfl
 cases h4:Nat.beq ti.kd 4 with
 |true=>
  simp only[h4,cond_true,bP]at hk
  have kX:(k2.em (.bb op) [x1,y1]).1.bT S ρ:=by
   have:(cm d o (k2.em (.bb op) [x1,y1]).1 (.v false [.p (k2.em (.bb op) [x1,y1]).2])).bT S ρ:=by rw[show cm d o _ _=k' from hk];exact hd
   exact dq.1 this
  obtain⟨_,ve,hi,t1,t2,r,f_,oR,hp,hv⟩:=Rn hw h1 h2 kX hc he
  cases t1 with
  |l _=>simp[Prim.ev,T.val]at hp
  |c u=>
   cases t2 with
   |l _=>simp[Prim.ev,T.val]at hp
   |c v=>
    obtain⟨e1,_⟩:=f_.scalar
    obtain⟨e2,_⟩:=oR.scalar
    simp only[Prim.ev,T.val,Option.bind_some,cU,bP]at hp
    obtain⟨r',hb,rfl⟩:=hp
    obtain⟨hr,hs⟩:=afI (P:=P) (w:=w) (t:=t) (x:=x) (y:=y) (hT.bo (ew h4)) hb
    exact fin _ r' hk (hex r' (by rw[e1,e2];exact hr)) hs hv ve hi
 |false=>
  simp only[h4,cond_false]at hk
  cases h5:(Nat.beq ti.kd 1||Nat.beq ti.kd 2)with
  |false=>simp[h5]at hk
  |true=>
   simp only[h5,cond_true,bP]at hk
   have kX:(k2.em (.bin op) [x1,y1]).1.bT S ρ:=by
    have:(cm d o (k2.em (.bin op) [x1,y1]).1 (.v false [.p (k2.em (.bin op) [x1,y1]).2])).bT S ρ:=by rw[show cm d o _ _=k' from hk];exact hd
    exact dq.1 this
   obtain⟨_,ve,hi,t1,t2,r,f_,oR,hp,hv⟩:=Rn hw h1 h2 kX hc he
   cases t1 with
   |l _=>simp[Prim.ev,T.val]at hp
   |c u=>
    cases t2 with
    |l _=>simp[Prim.ev,T.val]at hp
    |c v=>
     obtain⟨e1,_⟩:=f_.scalar
     obtain⟨e2,_⟩:=oR.scalar
     simp only[Prim.ev,T.val,Option.bind_some,cU,bP]at hp
     obtain⟨r',hb,rfl⟩:=hp
     obtain⟨hr,hs⟩:=afH (P:=P) (w:=w) (t:=t) (x:=x) (y:=y) hb
     exact fin _ r' hk (hex r' (by rw[e1,e2];exact hr)) hs hv ve hi
end
section
variable {M:Nat->Prop} {B:ft} {d:Nat} {up:Nat->Nat->Value} {ρ:List T} {G:Gh} {a:Act} {w:World} {S:Nat->aA} {P:Program}
variable {cx:Cx} {df fP oi:Nat} {s:St} {R:List bN} {ct:Ct} {k':Wk} {o:Oper} {Q:Exit->Act->World->Prop}
theorem A5(h:Rel M B d up s ρ G a w)(hn:∀n,o.dst=some n->n<a.tmps.size){k k1:Wk}{G1:Gh}(hk:dL M B d up ρ G a w k G1){x:SV}{v:Value}{y:Lf}{p:Prim}
  (h1:k.one x=some (k1,y))(hr:cR G1 w ρ x v)(hd:(cm d o (k1.em p [y]).1 (.v false [.p (k1.em p [y]).2])).bT S ρ)
  (hx:∀t r,fq (er G1.ω) w t v->p.ev [t]=some r->∃u,r=.c u∧kV u=true∧(execOp a.eval o).run P w=.ok (.value u) w):
  b_ P M B d up ρ a w s o (cm d o (k1.em p [y]).1 (.v false [.p (k1.em p [y]).2])).w Q∧(cm d o (k1.em p [y]).1 (.v false [.p (k1.em p [y]).2])).ct.i=k.ct.i:=by
 have kX:=dq.1 hd
 obtain⟨f_,r,oT,hv⟩:=Wk.cf kX
 obtain⟨_,hs,t,ht,mC⟩:=Wk.iF hk h1 f_ hr
 obtain⟨u,rfl,hsu,fu⟩:=hx t r mC (by simpa[Lf.cb ht]using oT)
 refine⟨r9 h ((hk.same hs).same (Wk.bX _ _ _)) hn fu (EZ hv hsu) (λi hi=>by simp[dI,dZ]at hi) Q,?_⟩
 rw[nk,(Wk.bX k1 p [y]).i,hs.i]
theorem Rp(h:Rel M B d up s ρ G a w)(hn:∀n,o.dst=some n->n<a.tmps.size){k k1 k2:Wk}{G1:Gh}(hk:dL M B d up ρ G a w k G1){x x':SV}{v v':Value}{y y':Lf}{p:Prim}
  (h1:k.one x=some (k1,y))(h2:k1.one x'=some (k2,y'))(hr:cR G1 w ρ x v)(jG:cR G1 w ρ x' v')(hd:(cm d o (k2.em p [y,y']).1 (.v false [.p (k2.em p [y,y']).2])).bT S ρ)
  (hx:∀t t' r,fq (er G1.ω) w t v->fq (er G1.ω) w t' v'->p.ev [t,t']=some r->∃u,r=.c u∧kV u=true∧(execOp a.eval o).run P w=.ok (.value u) w):
  b_ P M B d up ρ a w s o (cm d o (k2.em p [y,y']).1 (.v false [.p (k2.em p [y,y']).2])).w Q∧(cm d o (k2.em p [y,y']).1 (.v false [.p (k2.em p [y,y']).2])).ct.i=k.ct.i:=by
 have kX:=dq.1 hd
 obtain⟨oR,r,oT,hv⟩:=Wk.cf kX
 have mD:k.fB k1:=by
  unfold Wk.one at h1;split at h1
  ·exact Wk.ek h1
  ·cases h1
 obtain⟨f_,nx,t',jZ,mL⟩:=Wk.iF (hk.same mD) h2 oR jG
 obtain⟨_,_,t,ht,mC⟩:=Wk.iF hk h1 f_ hr
 obtain⟨u,rfl,hsu,fu⟩:=hx t t' r mC mL (by simpa[Lf.cb ht,Lf.cb jZ]using oT)
 refine⟨r9 h (((hk.same mD).same nx).same (Wk.bX _ _ _)) hn fu (EZ hv hsu) (λi hi=>by simp[dI,dZ]at hi) Q,?_⟩
 rw[nk,(Wk.bX k2 p [y,y']).i,nx.i,mD.i]
theorem afN(h:Rel M B d up s ρ G a w)(hn:∀n,o.dst=some n->n<a.tmps.size){op:UnOp}{t:TypeId}{x:Operand}(ho:o.op=.unOp op t x)
  (hk:jm cx df fP d o oi ⟨s.only R,[],ct,[]⟩=some k')(hd:k'.bT S ρ):b_ P M B d up ρ a w s o k'.w Q∧k'.ct.i=ct.i:=by
 have hw:=dL.start h R ct
 simp only[jm,ho,cU,bP]at hk
 obtain⟨⟨k1,y⟩,h1,hk⟩:=hk
 subst hk
 refine A5 h hn hw h1 (hw.ji x).1 hd λt r mC hr=>?_
 cases t with
 |l _=>simp[Prim.ev,T.val]at hr
 |c u=>
  obtain⟨e,_⟩:=mC.scalar
  simp only[Prim.ev,T.val,Option.bind_some,cU,bP]at hr
  obtain⟨r',hb,rfl⟩:=hr
  obtain⟨fu,hs⟩:=afJ (P:=P) (w:=w) hb
  refine⟨r',rfl,hs,?_⟩
  unfold execOp;rw[ho]
  show Sem.run P (do let v <-Op.unary op (a.eval x);pure (Next.value v)) w=_
  rw[e,Sem.run_bind,fu];rfl
theorem afO(ns:List Int):∀s:ByteArray,ns.foldl (λr n=>r.push (UInt8.ofNat n.toNat)) s=⟨s.data++(ns.map λn=>UInt8.ofNat n.toNat).toArray⟩:=by
 induction ns with
 |nil=>intro s;simp
 |cons n ns ih=>intro s;rw[List.foldl_cons,ih];simp[ByteArray.push]
theorem afP(ns:List Int):ns.foldl (λr n=>r.push (UInt8.ofNat n.toNat)) ByteArray.empty=AJ ns:=by
 rw[afO];unfold AJ;congr 1;exact Array.empty_append
theorem Rq:∀{xs:List (List T)} {ns:List Int},yc xs=some ns->ns.length=xs.length∧∀(j:Nat) (n:Int),ns[j]?=some n->xs[j]?=some [T.c (.int .u8 n)]
 | [],ns,h=>by
  simp only[yc,bP]at h
  subst h
  exact⟨rfl,λj n h=>by simp at h⟩
 |r::rs,ns,h=>by
  simp only[yc,cU,bP]at h
  obtain⟨n,h1,ns',h2,rfl⟩:=h
  obtain⟨g1,g2⟩:=Rq h2
  refine⟨by simp[g1],λj m hj=>?_⟩
  cases j with
  |zero=>
   simp only[List.getElem?_cons_zero,bP]at hj⊢
   subst hj
   unfold Q6 at h1
   split at h1
   ·cases h1;rfl
   ·cases h1
  |succ j=>simpa using g2 j m (by simpa using hj)
theorem afQ{ω:Nat->Option Lb}{xs:List (List T)}{v:Value}{ns:List Int}(h:fq ω w (.l xs) v)(hb:yc xs=some ns):(Conv.bytesToString v).run P w=.ok (.string (AJ ns)) w:=by
 obtain⟨hlen,bR⟩:=Rq hb
 rw[<-afP]
 cases h with
 |nil=>
  have:ns=[]:=List.eq_nil_of_length_eq_zero hlen
  subst this
  rename_i a0 cap
  cases a0 with
  |none=>simp[Conv.bytesToString,Sem.run_pure]
  |some b=>exact run_bytesToString w b 0 cap [] (run_loadCells_list w b [] λj v hj=>by simp at hj)
 |l hw hc hn bC h1 h2=>
  rename_i b off wd cap cv
  refine run_bytesToString w _ _ _ ns ?_
  rw[<-hlen,<-List.length_map (f:=Value.int .u8)]
  refine run_loadCells_list w _ _ λj v hj=>?_
  rw[List.getElem?_map,Option.map_eq_some_iff]at hj
  obtain⟨n,hj,rfl⟩:=hj
  have hx:=bR j n hj
  have qG:wd=1:=by
   have:=hw _ (List.mem_of_getElem? hx)
   simpa using this.symm
  subst qG
  have h3:eg xs j 0=some (.c (.int .u8 n)):=by simp[eg,hx]
  have h5:=h1 j 0 _ h3
  rw[(h2 j 0 _ h3).scalar.1]at h5
  rw[Addr.add_lit,show off+j=off+(j*1+0) by omega]
  exact h5
theorem afR(ez:eZ P cx)(h:Rel M B d up s ρ G a w)(hn:∀n,o.dst=some n->n<a.tmps.size){t1 t2:TypeId}{x:Operand}(ho:o.op=.convert t1 t2 x)
  (hk:jm cx df fP d o oi ⟨s.only R,[],ct,[]⟩=some k')(hd:k'.bT S ρ):b_ P M B d up ρ a w s o k'.w Q∧k'.ct.i=ct.i:=by
 have hw:=dL.start h R ct
 simp only[jm,ho,cU]at hk
 obtain⟨si,Rr,ti,gn,⟨k1,y⟩,h1,hk⟩:=hk
 split at hk
 ·rename_i kk z hz
  cases hb:(Nat.beq ti.kd 1&&Nat.beq si.kd 1)with
  |false=>rw[hb]at hk;cases hk
  |true=>
   rw[hb]at hk
   simp only[cond_true,bP]at hk
   subst hk
   rw[bL]at hb
   have yw:=(ez.ty _ _ gn).ik (ew hb.1) kk z hz
   obtain⟨k0,Qf⟩:=(ez.ty _ _ Rr).it (ew hb.2)
   refine A5 h hn hw h1 (hw.ji x).1 hd λt r mC hr=>?_
   cases t with
   |l _=>simp[Prim.ev]at hr
   |c u=>
    obtain⟨e,_⟩:=mC.scalar
    cases u<;>simp only[Prim.ev,bP]at hr<;>try cases hr
    rename_i k3 n np
    refine⟨_,rfl,rfl,?_⟩
    unfold execOp;rw[ho]
    show Sem.run P (do let v <-convert t1 t2 (a.eval x);pure (Next.value v)) w=_
    rw[e,Sem.run_bind]
    have:(convert t1 t2 (.int k3 n)).run P w=.ok (.int kk (kk.wrap n)) w:=by
     unfold convert
     simp only[Sem.run_bind,run_underlying Qf,run_underlying yw,Result.andThen_ok]
     rfl
    rw[this];rfl
 ·rename_i z hz
  cases hb:(Nat.beq ti.kd 2&&Nat.beq si.kd 3)with
  |false=>rw[hb]at hk;cases hk
  |true=>
   rw[hb]at hk
   simp only[cond_true,cU]at hk
   obtain⟨te,r_,hk⟩:=hk
   split at hk
   ·rename_i z2 s_
    cases pf:Nat.beq te.kd 1 with
    |false=>rw[pf]at hk;cases hk
    |true=>
     rw[pf]at hk
     simp only[cond_true,bP]at hk
     subst hk
     rw[bL]at hb
     have Qf:=(ez.ty _ _ Rr).sl (ew hb.2)
     have yw:=(ez.ty _ _ gn).st (ew hb.1)
     have hu3:=(ez.ty _ _ r_).ik (ew pf) .u8 z2 s_
     refine A5 h hn hw h1 (hw.ji x).1 hd λt r mC hr=>?_
     cases t with
     |c u=>simp[Prim.ev]at hr
     |l xs=>
      simp only[Prim.ev,cU,bP]at hr
      obtain⟨ns,hns,rfl⟩:=hr
      refine⟨_,rfl,rfl,?_⟩
      unfold execOp;rw[ho]
      show Sem.run P (do let v <-convert t1 t2 (a.eval x);pure (Next.value v)) w=_
      rw[Sem.run_bind]
      obtain⟨b,c,e,_⟩:=mC.rows
      have:(convert t1 t2 (a.eval x)).run P w=.ok (.string (AJ ns)) w:=by
       have h0:=afQ (P:=P) mC hns
       rw[e]at h0⊢
       rw[run_convert_bytes_string w t1 t2 si.el b xs.length c Qf hu3 yw]
       exact h0
      rw[this];rfl
   ·cases hk
 ·cases hk
theorem JN{x:Sem Value}{v:Value}(h:x.run P w=.ok v w):(do let v <-x;pure (Next.value v):Sem Next).run P w=.ok (.value v) w:=by
 rw[Sem.run_bind,h];rfl
theorem Rs{c:Call}{b:Builtin}(ho:o.op=.call c)(hc:c.callee=.builtin b){r:Result Next}
  (h:(builtin b c.argTypes o.type (c.args.map λ | .const _=>true|_=>false) (c.args.map a.eval)).run P w=r):(execOp a.eval o).run P w=r:=by
 unfold execOp
 rw[ho]
 show Sem.run P (do let d <-resolve a.eval c o.type;invoke d.target d.args) w=r
 simp only[resolve,hc]
 exact h
theorem afT(h:Rel M B d up s ρ G a w)(hn:∀n,o.dst=some n->n<a.tmps.size)(ez:eZ P cx){c:Call}{x:Operand}(ho:o.op=.call c)(hc:c.callee=.builtin .len)(fI:c.args.toList=[x])
  {ti:TI}(ht:(c.argTypes[0]?).bind cx.ty=some ti)(qH:ti.kd=3){k k1:Wk}{G1:Gh}{y:Lf}(hw:dL M B d up ρ G a w k G1)
  (h1:k.one (cB d k.get x)=some (k1,y))(hd:(cm d o (k1.em .len [y]).1 (.v false [.p (k1.em .len [y]).2])).bT S ρ):
  b_ P M B d up ρ a w s o (cm d o (k1.em .len [y]).1 (.v false [.p (k1.em .len [y]).2])).w Q∧(cm d o (k1.em .len [y]).1 (.v false [.p (k1.em .len [y]).2])).ct.i=k.ct.i:=by
 refine A5 h hn hw h1 (hw.ji x).1 hd λt r mC hr=>?_
 have hA:c.args=#[x]:=Array.ext' fI
 cases JO:c.argTypes[0]? with
 |none=>simp[JO]at ht
 |some tt=>
  have hT:=ez.ty tt ti (by simpa[JO]using ht)
  have hu:=hT.sl qH
  cases t with
  |l xs=>
   obtain⟨b,cap,e,_⟩:=mC.rows
   simp only[Prim.ev,bP]at hr
   subst hr
   refine⟨_,rfl,rfl,Rs ho hc ?_⟩
   rw[hA]
   refine JN ?_
   simp[e,Builtin.len_,JO,run_underlying hu,goInt]
  |c v=>simp[Prim.ev]at hr
theorem afU(h:Rel M B d up s ρ G a w)(hn:∀n,o.dst=some n->n<a.tmps.size)(ez:eZ P cx){c:Call}{x:Operand}(ho:o.op=.call c)(hc:c.callee=.builtin .len)(fI:c.args.toList=[x])
  {ti:TI}(ht:(c.argTypes[0]?).bind cx.ty=some ti)(qH:ti.kd=2){k k1:Wk}{G1:Gh}{y:Lf}(hw:dL M B d up ρ G a w k G1)
  (h1:k.one (cB d k.get x)=some (k1,y))(hd:(cm d o (k1.em .lens [y]).1 (.v false [.p (k1.em .lens [y]).2])).bT S ρ):
  b_ P M B d up ρ a w s o (cm d o (k1.em .lens [y]).1 (.v false [.p (k1.em .lens [y]).2])).w Q∧(cm d o (k1.em .lens [y]).1 (.v false [.p (k1.em .lens [y]).2])).ct.i=k.ct.i:=by
 refine A5 h hn hw h1 (hw.ji x).1 hd λt r mC hr=>?_
 have hA:c.args=#[x]:=Array.ext' fI
 cases JO:c.argTypes[0]? with
 |none=>simp[JO]at ht
 |some tt=>
  have hT:=ez.ty tt ti (by simpa[JO]using ht)
  have hu:=hT.st qH
  cases t with
  |l xs=>simp[Prim.ev]at hr
  |c v=>
   obtain⟨e,hs⟩:=mC.scalar
   cases v with
   |string str=>
    simp only[Prim.ev,bP]at hr
    subst hr
    refine⟨_,rfl,rfl,Rs ho hc ?_⟩
    rw[hA]
    refine JN ?_
    simp[e,Builtin.len_,JO,run_underlying hu,goInt]
   |_=>simp[Prim.ev]at hr
theorem Rt(h:Rel M B d up s ρ G a w)(hn:∀n,o.dst=some n->n<a.tmps.size){c:Call}{x x':Operand}(ho:o.op=.call c)(fI:c.args.toList=[x,x'])
  {p:Prim}(hc:c.callee=.builtin .max∧p=.mx∨c.callee=.builtin .min∧p=.mn){k k1 k2:Wk}{G1:Gh}{y y':Lf}(hw:dL M B d up ρ G a w k G1)
  (h1:k.one (cB d k.get x)=some (k1,y))(h2:k1.one (cB d k.get x')=some (k2,y'))(hd:(cm d o (k2.em p [y,y']).1 (.v false [.p (k2.em p [y,y']).2])).bT S ρ):
  b_ P M B d up ρ a w s o (cm d o (k2.em p [y,y']).1 (.v false [.p (k2.em p [y,y']).2])).w Q∧(cm d o (k2.em p [y,y']).1 (.v false [.p (k2.em p [y,y']).2])).ct.i=k.ct.i:=by
 refine Rp h hn hw h1 h2 (hw.ji x).1 (hw.ji x').1 hd λt t' r mC mL hr=>?_
 have hA:c.args=#[x,x']:=Array.ext' fI
 cases t with
 |l _=>rcases hc with⟨_,rfl⟩|⟨_,rfl⟩<;>simp[Prim.ev]at hr
 |c u=>
  cases t' with
  |l _=>rcases hc with⟨_,rfl⟩|⟨_,rfl⟩<;>cases u<;>simp[Prim.ev]at hr
  |c u'=>
   obtain⟨e,_⟩:=mC.scalar
   obtain⟨e',_⟩:=mL.scalar
   cases u<;>cases u'<;>rcases hc with⟨hc,rfl⟩|⟨hc,rfl⟩<;>simp only[Prim.ev,bP]at hr<;>try cases hr
   ·exact⟨_,rfl,rfl,Rs ho hc (by rw[hA];simp[builtin,Builtin.max_,Builtin.max2,e,e'])⟩
   ·exact⟨_,rfl,rfl,Rs ho hc (by rw[hA];simp[builtin,Builtin.min_,Builtin.min2,e,e'])⟩
theorem DT{x:Sem Value}{v:Value}(he:execOp a.eval o=(do let v <-x;pure (Next.value v)))(h:x.run P w=.ok v w):(execOp a.eval o).run P w=.ok (.value v) w:=by
 rw[he];exact JN h
theorem afV(h:Rel M B d up s ρ G a w)(hn:∀n,o.dst=some n->n<a.tmps.size){x x':Operand}{t:TypeId}(ho:o.op=.index t x x')(ez:eZ P cx){ti:TI}(ht:cx.ty t=some ti)(qH:ti.kd=2)
  {k k1 k2:Wk}{G1:Gh}{y y':Lf}(hw:dL M B d up ρ G a w k G1)
  (h1:k.one (cB d k.get x)=some (k1,y))(h2:k1.one (cB d k.get x')=some (k2,y'))(hd:(cm d o (k2.em .idx [y,y']).1 (.v false [.p (k2.em .idx [y,y']).2])).bT S ρ):
  b_ P M B d up ρ a w s o (cm d o (k2.em .idx [y,y']).1 (.v false [.p (k2.em .idx [y,y']).2])).w Q∧(cm d o (k2.em .idx [y,y']).1 (.v false [.p (k2.em .idx [y,y']).2])).ct.i=k.ct.i:=by
 refine Rp h hn hw h1 h2 (hw.ji x).1 (hw.ji x').1 hd λt1 t2 r mC mL hr=>?_
 have hu:=(ez.ty _ _ ht).st qH
 cases t1 with
 |l _=>cases t2<;>simp[Prim.ev]at hr
 |c u=>
  cases t2 with
  |l _=>cases u<;>simp[Prim.ev]at hr
  |c u'=>
   obtain⟨e,_⟩:=mC.scalar
   obtain⟨e',_⟩:=mL.scalar
   cases u with
   |string str=>
    cases u' with
    |int kk n=>
     simp only[Prim.ev]at hr
     split at hr
     ·rename_i h0
      split at hr
      ·rename_i bC
       simp only[bP]at hr
       subst hr
       refine⟨_,rfl,rfl,DT (x:=Instr.index t (a.eval x) (a.eval x')) (by unfold execOp;rw[ho]) ?_⟩
       have hg:str[n.toNat]?=some (str.get n.toNat bC):=by
        simp[getElem?_pos,bC];rfl
       simp[Instr.index,e,e',asIntOf,run_underlying hu,h0,hg]
      ·cases hr
     ·cases hr
    |_=>simp[Prim.ev]at hr
   |_=>cases u'<;>simp[Prim.ev]at hr
theorem afW(h:Rel M B d up s ρ G a w)(hn:∀n,o.dst=some n->n<a.tmps.size){x:Operand}(ho:o.op=.nilCheck x)
  (hk:jm cx df fP d o oi ⟨s.only R,[],ct,[]⟩=some k'):b_ P M B d up ρ a w s o k'.w Q∧k'.ct.i=ct.i:=by
 have hw:=dL.start h R ct
 obtain⟨hr,hm⟩:=hw.ji x
 have key:∀(v:SV) (ad:Addr),cB d (Wk.get ⟨s.only R,[],ct,[]⟩) x=v->a.eval x=.pointer (some ad)->some (cm d o ⟨s.only R,[],ct,[]⟩ v)=some k'->b_ P M B d up ρ a w s o k'.w Q∧k'.ct.i=ct.i:=by
  intro v ad hv he hk
  cases hk
  refine⟨r9 h hw hn (v:=.pointer (some ad)) ?_ (by rw[<-he,<-hv];exact hr) (by rw[<-hv];exact hm) Q,by rw[nk]⟩
  unfold execOp
  rw[ho]
  show Sem.run P (match a.eval x with| .pointer none| .nilIface| .nilFunc=>runtimePanic .nilDeref| .func (.method name) first captured=>_|x=>pure (Next.value x)) w=_
  rw[he];rfl
 simp only[jm,ho]at hk
 split at hk
 ·rename_i bx off hv
  rw[hv]at hr
  exact key _ _ hv hr hk
 ·rename_i id q ix wd off hv
  rw[hv]at hr
  obtain⟨p,b,n,cap,i,_,_,_,_,he⟩:=hr
  exact key _ _ hv he hk
 ·rename_i s' ix wd off hv
  rw[hv]at hr
  obtain⟨xs,i,r,b,base,_,_,_,he,_⟩:=hr
  exact key _ _ hv he hk
 ·cases hk
theorem afX(h:Rel M B d up s ρ G a w)(hn:∀n,o.dst=some n->n<a.tmps.size){x:Operand}{i:Nat}(ho:o.op=.extract x i)
  (hk:jm cx df fP d o oi ⟨s.only R,[],ct,[]⟩=some k'):b_ P M B d up ρ a w s o k'.w Q∧k'.ct.i=ct.i:=by
 have hw:=dL.start h R ct
 obtain⟨hr,hm⟩:=hw.ji x
 simp only[jm,ho]at hk
 split at hk
 ·rename_i vs hv
  rw[hv]at hr hm
  simp only[cU,bP]at hk
  obtain⟨u,hu,hk⟩:=hk
  have dh:cm d o ⟨s.only R,[],ct,[]⟩ (.v u.1 u.2)=k':=hk
  subst dh
  obtain⟨us,he,pg⟩:=hr
  have main:∀(vs:List (Bool×List Ce)) (us:List Value) (i:Nat) (u:Bool×List Ce),gR G w ρ vs us->vs[i]?=some u->
    ∃v,us[i]?=some v∧fH G w ρ u.1 u.2 v∧∀j∈dZ u.2,j∈rY vs:=by
   intro vs
   induction vs with
   |nil=>intro us i u _ hi;simp at hi
   |cons y vs ih=>
    intro us i u hr hi
    cases us with
    |nil=>exact hr.elim
    |cons z us=>
     cases i with
     |zero=>simp at hi;subst hi;exact⟨z,rfl,hr.1,λj hj=>by simp[rY,hj]⟩
     |succ i=>
      obtain⟨v,h1,h2,h3⟩:=ih us i u hr.2 (by simpa using hi)
      exact⟨v,by simpa using h1,h2,λj hj=>by simp[rY,h3 j hj]⟩
  obtain⟨v,h1,h2,h3⟩:=main vs us i u pg hu
  refine⟨r9 h hw hn (v:=v) (x:=.v u.1 u.2) (DT (x:=Instr.extract (a.eval x) i) (by unfold execOp;rw[ho]) ?_) h2 (λj hj=>hm j (h3 j hj)) Q,by rw[nk]⟩
  rw[he]
  simp[Instr.extract,h1]
 ·cases hk
theorem afY(ez:eZ P cx)(h:Rel M B d up s ρ G a w)(hn:∀n,o.dst=some n->n<a.tmps.size){x:Operand}{t f:Nat}(ho:o.op=.fieldAddr t x f)
  (hk:jm cx df fP d o oi ⟨s.only R,[],ct,[]⟩=some k'):b_ P M B d up ρ a w s o k'.w Q∧k'.ct.i=ct.i:=by
 have hw:=dL.start h R ct
 obtain⟨hr,hm⟩:=hw.ji x
 simp only[jm,ho,cU,bP]at hk
 obtain⟨v,hv,hk⟩:=hk
 have dh:cm d o ⟨s.only R,[],ct,[]⟩ v=k':=hk
 subst dh
 have run:∀(ti:TI) (of:Nat×Nat) (b oo:Nat),cx.ty t=some ti->ti.fs[f]?=some of->a.eval x=.pointer (some ⟨b,oo,none⟩)->
   (execOp a.eval o).run P w=.ok (.value (.pointer (some ⟨b,oo+of.1,none⟩))) w:=by
  intro ti of b oo gn hf he
  obtain⟨fs,z',i,h1,h2,h3,h4,h5,_⟩:=(ez.ty _ _ gn).fs f of hf
  refine DT (x:=Instr.fieldAt t (a.eval x) f) (by unfold execOp;rw[ho]) ?_
  simp[Instr.fieldAt,run_underlying h1,h2,he,Instr.sureAddr,fieldPlace,sizeOf,typeInfo,h4,h5,h3,Addr.add_lit]
 unfold fieldAt at hv
 split at hv
 ·rename_i bx off fg
  rw[fg]at hr hm
  simp only[cU,bP]at hv
  obtain⟨ti,gn,of,hf,rfl⟩:=hv
  exact⟨r9 h hw hn (x:=.pt bx (off+of.1)) (run ti of _ _ gn hf hr) rfl hm Q,by rw[nk]⟩
 ·rename_i id q ix wd off fg
  rw[fg]at hr hm
  simp only[cU,bP]at hv
  obtain⟨ti,gn,of,hf,rfl⟩:=hv
  obtain⟨p,b,n,cap,i,h1,h2,h3,h4,he⟩:=hr
  exact⟨r9 h hw hn (x:=.ep id q ix wd (off+of.1)) (run ti of _ _ gn hf he) ⟨p,b,n,cap,i,h1,h2,h3,h4,by rw[Nat.add_assoc]⟩ hm Q,by rw[nk]⟩
 ·rename_i s' ix wd off fg
  rw[fg]at hr hm
  simp only[cU,bP]at hv
  obtain⟨ti,gn,of,hf,rfl⟩:=hv
  obtain⟨xs,i,r,b,base,h1,h2,h3,he,h5⟩:=hr
  exact⟨r9 h hw hn (x:=.fp s' ix wd (off+of.1)) (run ti of _ _ gn hf he) ⟨xs,i,r,b,base,h1,h2,h3,by rw[Nat.add_assoc],h5⟩ hm Q,by rw[nk]⟩
 ·cases hv
theorem fq.one{ω:Nat->Option Lb}{t:T}{v:Value}(h:fq ω w t v):v.oneCell'=true:=by
 cases h with
 |c h=>cases v<;>simp_all[kV,Value.oneCell']
 |nil=>rfl
 |l=>rfl
theorem gD.one{e:Ce}{v:Value}(h:gD G w ρ e v):v.oneCell'=true:=by
 cases e with
 |p x=>obtain⟨t,_,h⟩:=h;exact h.one
 |o id q=>obtain⟨p,_,rfl⟩:=h;obtain⟨x,n,c,h⟩:=G.hs id p;rw[h];rfl
 |n=>cases h;rfl
 |d=>exact h
theorem afZ{v:Value}(h:v.oneCell'=true):∀x,v≠.agg x:=λx e=>by subst e;cases h
theorem bu.length:∀{cs:List Ce} {vs:List Value},bu G w ρ cs vs->cs.length=vs.length
 | [],[],_=>rfl
 | [],_::_,h=>h.elim
 |_::_,[],h=>h.elim
 |_::cs,_::vs,h=>by simp[bu.length h.2]
theorem bu.drop:∀{cs:List Ce} {vs:List Value} (n:Nat),bu G w ρ cs vs->bu G w ρ (cs.drop n) (vs.drop n)
 |_,_,0,h=>h
 | [],[],n+1,_=>trivial
 | [],_::_,_,h=>h.elim
 |_::_,[],_,h=>h.elim
 |_::cs,_::vs,n+1,h=>bu.drop n h.2
theorem bu.take:∀{cs:List Ce} {vs:List Value} (n:Nat),bu G w ρ cs vs->bu G w ρ (cs.take n) (vs.take n)
 |_,_,0,h=>trivial
 | [],[],n+1,_=>trivial
 | [],_::_,_,h=>h.elim
 |_::_,[],_,h=>h.elim
 |_::cs,_::vs,n+1,h=>⟨h.1,bu.take n h.2⟩
theorem bu.one:∀{cs:List Ce} {vs:List Value},bu G w ρ cs vs->∀v∈vs,v.oneCell'=true
 | [],[],_,v,hv=>by cases hv
 | [],_::_,h,_,_=>h.elim
 |_::_,[],h,_,_=>h.elim
 |_::cs,_::vs,h,v,hv=>by
  cases hv with
  |head=>exact h.1.one
  |tail _ hv=>exact bu.one h.2 v hv
theorem JP(cs:List Ce)(n:Nat):∀i∈dZ (cs.drop n),i∈dZ cs:=by
 induction cs generalizing n with
 |nil=>intro i hi;simp at hi;exact hi
 |cons c cs ih=>
  intro i hi
  cases n with
  |zero=>exact hi
  |succ n=>rw[yo];exact List.mem_append_right _ (ih n i (by simpa using hi))
theorem JQ(cs:List Ce)(n:Nat):∀i∈dZ (cs.take n),i∈dZ cs:=by
 induction cs generalizing n with
 |nil=>intro i hi;simp at hi;exact hi
 |cons c cs ih=>
  intro i hi
  cases n with
  |zero=>simp[dZ]at hi
  |succ n=>
   rw[List.take_succ_cons,yo]at hi
   rw[yo]
   rcases List.mem_append.1 hi with hi|hi
   ·exact List.mem_append_left _ hi
   ·exact List.mem_append_right _ (ih n i hi)
theorem A6{t:Nat}{ti:TI}(hT:tX P t ti){b off:Nat}{vs:List Value}(hl:vs.length=ti.sz)
  (hc:∀j v,vs[j]?=some v->w.cell? ⟨b,off+j,none⟩=some v):
  (Instr.loadAt t (.pointer (some ⟨b,off,none⟩))).run P w=.ok (if ti.ag then .agg vs.toArray else vs.getD 0 undef) w:=by
 obtain⟨i,z,hi,hs,_,_,_⟩:=hT.info
 obtain⟨u,hu,nZ,yx⟩:=hT.ag
 have sa:(loadCells ⟨b,off,none⟩ vs.length).run P w=.ok vs.toArray w:=
  run_loadCells_list w _ vs λj v hj=>by rw[Addr.add_lit];exact hc j v hj
 cases hb:ti.ag with
 |true=>
  obtain⟨fs,rfl⟩:=nZ.1 hb
  simp[Instr.loadAt,Instr.sureAddr,loadVar,isAgg,run_underlying hu,sizeOf,typeInfo,hi,hs,<-hl,sa]
 |false=>
  have h1:=hT.one hb
  obtain⟨v,rfl⟩:∃v,vs=[v]:=by
   cases vs with
   |nil=>simp at hl;omega
   |cons v vs=>cases vs with
    |nil=>exact⟨v,rfl⟩
    |cons _ _=>simp at hl;omega
  have Is:=hc 0 v rfl
  have E1:(isAgg t).run P w=.ok false w:=by
   simp only[isAgg,Sem.run_bind,run_underlying hu,Result.andThen_ok]
   cases u with
   |struct fs=>have:=nZ.2 ⟨fs,rfl⟩;rw[hb]at this;cases this
   |array n e=>exact absurd rfl (yx n e)
   |_=>rfl
  simp only[Nat.add_zero]at Is
  simp[Instr.loadAt,Instr.sureAddr,loadVar,E1,Is]
theorem A7{ti:TI}{t:Nat}(hT:tX P t ti){G1:Gh}{cs:List Ce}{vs:List Value}(h:bu G1 w ρ cs vs)(hl:vs.length=ti.sz):
  cR G1 w ρ (.v ti.ag cs) (if ti.ag then .agg vs.toArray else vs.getD 0 undef):=by
 cases hb:ti.ag with
 |true=>exact⟨vs,rfl,h⟩
 |false=>
  have h1:=hT.one hb
  cases vs with
  |nil=>simp at hl;omega
  |cons v vs=>cases vs with
   |cons _ _=>simp at hl;omega
   |nil=>cases cs with
    |nil=>exact h.elim
    |cons c cs=>cases cs with
     |cons _ _=>exact h.2.elim
     |nil=>exact⟨c,rfl,h.1,afZ h.1.one⟩
theorem Ru{x ix:Lf}{xs:List (List T)}{i:Nat}(hx:x.gh ρ=some (.l xs))(hi:ma ρ ix=some i):uY (x.ev ρ) (ix.ev ρ)=xs[i]?:=by
 obtain⟨k,hk⟩:=yp hi
 rw[Lf.cb hx,hk,A1]
theorem Wk.p9:∀(n:Nat) (k:Wk) (sc:Bool) (x ix:Lf) (wd off:Nat),k.fB (k.row sc x ix wd off n).1
 |0,k,_,_,_,_,_=>.refl k
 |n+1,k,sc,x,ix,wd,off=>by
  simp only[Wk.row]
  exact(Wk.bX k _ _).trans (Wk.p9 n _ sc x ix wd (off+1))
theorem Wk.sb:∀(n:Nat) (k:Wk) (sc:Bool) (x ix:Lf) (wd off:Nat),(k.row sc x ix wd off n).1.bT S ρ->k.bT S ρ
 |0,_,_,_,_,_,_,h=>h
 |n+1,k,sc,x,ix,wd,off,h=>by
  simp only[Wk.row]at h
  exact(Wk.cf (Wk.sb n _ sc x ix wd (off+1) h)).1
theorem JR{x ix:Lf}{xs:List (List T)}{i wd off:Nat}{sc:Bool}{t:T}(hx:x.gh ρ=some (.l xs))(hi:ma ρ ix=some i)
  (h:Prim.ev (bif sc then .bF wd off else .cell wd off) [x.ev ρ,ix.ev ρ]=some t):
  ∃r,xs[i]?=some r∧r.length=wd∧r[off]?=some t∧(sc=true->eA t=true):=by
 cases sc with
 |false=>
  simp only[cond_false,Prim.ev,Ru hx hi]at h
  cases hr:xs[i]? with
  |none=>simp[hr]at h
  |some r=>
   simp only[hr,Option.bind_some]at h
   split at h
   ·rename_i hl;exact⟨r,rfl,hl,h,λhf=>by cases hf⟩
   ·cases h
 |true=>
  simp only[cond_true,Prim.ev,Ru hx hi]at h
  cases hr:xs[i]? with
  |none=>simp[hr]at h
  |some r=>
   simp only[hr,Option.bind_some]at h
   split at h
   ·rename_i hl
    cases ho:r[off]? with
    |none=>simp[ho]at h
    |some t'=>
     simp only[ho,Option.bind_some]at h
     split at h
     ·rename_i hs;cases h;exact⟨r,rfl,hl,ho,λ_=>hs⟩
     ·cases h
   ·cases h
theorem Wk.xi{G1:Gh}{x ix:Lf}{xs:List (List T)}{i wd:Nat}{sc:Bool}(hx:x.gh ρ=some (.l xs))(hi:ma ρ ix=some i){b base:Nat}
  (hZ:∀r,xs[i]?=some r->r.length=wd->∀j t,r[j]?=some t->(sc=true->eA t=true)->∃u,w.cell? ⟨b,base+j,none⟩=some u∧fq G1.q w t u):
  ∀(n:Nat) (k:Wk) (off:Nat),(k.row sc x ix wd off n).1.bT S ρ->
   ∃vs:List Value,vs.length=n∧(∀j v,vs[j]?=some v->w.cell? ⟨b,base+off+j,none⟩=some v)∧bu G1 w ρ (k.row sc x ix wd off n).2 vs∧dZ (k.row sc x ix wd off n).2=[]
 |0,k,off,_=>⟨[],rfl,λj v hj=>by simp at hj,trivial,rfl⟩
 |n+1,k,off,hd=>by
  simp only[Wk.row]at hd⊢
  obtain⟨_,t,ht,hy⟩:=Wk.cf (Wk.sb n _ sc x ix wd (off+1) hd)
  obtain⟨r,h1,h2,h3,h4⟩:=JR hx hi ht
  obtain⟨u,h5,h6⟩:=hZ r h1 h2 off t h3 h4
  obtain⟨vs,g1,g2,g3,g4⟩:=Wk.xi hx hi hZ n _ (off+1) hd
  refine⟨u::vs,by simp[g1],λj v hj=>?_,⟨⟨t,hy,h6⟩,g3⟩,by simp[dZ,g4]⟩
  cases j with
  |zero=>simp at hj;subst hj;simpa using h5
  |succ j=>
   have:=g2 j v (by simpa using hj)
   rwa[show base+(off+1)+j=base+off+(j+1) by omega]at this
theorem Rv{ix:Lf}{wd off i:Nat}(hi:ma ρ ix=some i):∀{q:nh} {p:List (Nat×Nat)},hY ρ q=some p->hY ρ (q++[(ix,wd,off)])=some (p++[(i,off)])
 | [],p,h=>by simp only[hY]at h;cases h;simp[hY,hi]
 |(z1,z2,z3)::q,p,h=>by
  simp only[hY]at h
  cases mD:ma ρ z1 with
  |none=>simp[mD]at h
  |some i1=>
   cases nx:hY ρ q with
   |none=>simp[mD,nx]at h
   |some p2=>
    simp[mD,nx]at h
    subst h
    simp[hY,mD,Rv hi nx]
theorem fG.row{G1:Gh}{id:Nat}{dp:Bool}{p:List (Nat×Nat)}{xs:List (List T)}{b n cap i wd:Nat}{r:List T}(h:fG G1 w id dp p (.l xs))
  (hH:G1.H id p=.slice (some ⟨b,0,none⟩) n cap)(hr:xs[i]?=some r)(hl:r.length=wd)(j:Nat)(t:T)(ht:r[j]?=some t):
  ∃v,w.cell? ⟨b,i*wd+j,none⟩=some v∧(∀u,t=.c u->v=u∧kV u=true)∧(∀ys,t=.l ys->dp=false->fq G1.q w t v)∧(∀ys,t=.l ys->dp=true->v=G1.H id (p++[(i,j)])):=by
 cases h with
 |nil h=>simp at hr
 | @l _ _ _ b' E2 yz arr elem cv g1 g2 g3 g4 g5 g6 g7 g8 g9 g10 g11=>
  rw[hH]at g1
  cases g1
  have hw:E2=wd:=by rw[<-hl,g6 r (List.mem_of_getElem? hr)]
  subst hw
  have bR:eg xs i j=some t:=by simp[eg,hr,ht]
  refine⟨cv i j,by rw[yq g4];exact g7 i j t bR,λu hu=>?_,λys hy hd=>?_,λys hy hd=>?_⟩
  ·subst hu;exact g8 i j u bR
  ·subst hy;exact g9 i j ys bR hd
  ·subst hy;exact g10 i j ys bR hd
theorem yA{t:T}(h:eA t=true):∃v,t=.c v:=by
 cases t with
 |c v=>exact⟨v,rfl⟩
 |l _=>simp[eA]at h
theorem fq.row{ω:Nat->Option Lb}{xs:List (List T)}{b o n cap i wd:Nat}{r:List T}(h:fq ω w (.l xs) (.slice (some ⟨b,o,none⟩) n cap))
  (hr:xs[i]?=some r)(hl:r.length=wd):ω b=none∧b<w.heap.size∧∀(j:Nat) (t:T),r[j]?=some t->∃v,w.cell? ⟨b,o+i*wd+j,none⟩=some v∧fq ω w t v:=by
 generalize hv:Value.slice (some (⟨b,o,none⟩:Addr)) n cap=v at h
 cases h with
 |nil=>simp at hr
 | @l _ b' af0 E2 yz cv h1 h2 h3 h4 h5 h6=>
  cases hv
  have hw:E2=wd:=by rw[<-hl,h1 r (List.mem_of_getElem? hr)]
  subst hw
  refine⟨h3,h4,λj t ht=>?_⟩
  have bR:eg xs i j=some t:=by simp[eg,hr,ht]
  exact⟨cv i j,by rw[Nat.add_assoc];exact h5 i j t bR,h6 i j t bR⟩
theorem Wk.me:∀(zs:List Ce) (k:Wk) (y ix:Lf) (id:Nat) (q:nh) (wd off:Nat),k.fB (k.pc y ix id q wd off zs).1
 | [],k,_,_,_,_,_,_=>.refl k
 |z::zs,k,y,ix,id,q,wd,off=>by
  unfold Wk.pc
  cases gd z with
  |true=>exact(Wk.bX k _ _).trans (Wk.me zs _ y ix id q wd (off+1))
  |false=>exact(Wk.bX k _ _).trans (Wk.me zs _ y ix id q wd (off+1))
theorem Wk.lK:∀(zs:List Ce) (k:Wk) (y ix:Lf) (id:Nat) (q:nh) (wd off:Nat),(k.pc y ix id q wd off zs).1.bT S ρ->k.bT S ρ
 | [],_,_,_,_,_,_,_,h=>h
 |z::zs,k,y,ix,id,q,wd,off,h=>by
  unfold Wk.pc at h
  cases hz:gd z with
  |true=>rw[hz]at h;exact(Wk.cf (Wk.lK zs _ y ix id q wd (off+1) h)).1
  |false=>rw[hz]at h;exact(Wk.cf (Wk.lK zs _ y ix id q wd (off+1) h)).1
theorem Wk.p_{G1:Gh}{y ix:Lf}{xs:List (List T)}{i wd id b base:Nat}{q:nh}{p:List (Nat×Nat)}(hx:y.gh ρ=some (.l xs))(hi:ma ρ ix=some i)(hp:hY ρ q=some p)(A8:id%2=1)
  (hZ:∀r,xs[i]?=some r->r.length=wd->∀j t,r[j]?=some t->∃u,w.cell? ⟨b,base+j,none⟩=some u∧(∀v,t=.c v->u=v∧kV v=true)∧∀ys,t=.l ys->u=G1.H id (p++[(i,j)])):
  ∀(zs:List Ce) (k:Wk) (off:Nat),(k.pc y ix id q wd off zs).1.bT S ρ->
   ∃vs:List Value,vs.length=zs.length∧(∀j v,vs[j]?=some v->w.cell? ⟨b,base+off+j,none⟩=some v)∧bu G1 w ρ (k.pc y ix id q wd off zs).2 vs∧∀j∈dZ (k.pc y ix id q wd off zs).2,j=id
 | [],k,off,_=>⟨[],rfl,λj v hj=>by simp at hj,trivial,λj hj=>by simp[Wk.pc,dZ]at hj⟩
 |z::zs,k,off,hd=>by
  unfold Wk.pc at hd⊢
  cases hz:gd z with
  |true=>
   rw[hz]at hd
   simp only[cond_true]at hd⊢
   obtain⟨_,t,ht,_⟩:=Wk.cf (Wk.lK zs _ _ _ _ _ _ (off+1) hd)
   obtain⟨ys,rfl,bR,r,h1,h2⟩:=EX hx hi ht
   have h3:r[off]?=some (.l ys):=by simpa[eg,h1]using bR
   obtain⟨u,h5,_,h6⟩:=hZ r h1 h2 off _ h3
   obtain⟨vs,g1,g2,g3,g4⟩:=Wk.p_ hx hi hp A8 hZ zs _ (off+1) hd
   refine⟨u::vs,by simp[g1],λj v hj=>?_,⟨⟨_,afv (Rv hi hp) A8,h6 ys rfl⟩,g3⟩,λj hj=>?_⟩
   ·cases j with
    |zero=>simp at hj;subst hj;simpa using h5
    |succ j=>
     have:=g2 j v (by simpa using hj)
     rwa[show base+(off+1)+j=base+off+(j+1) by omega]at this
   ·simp only[dZ,List.mem_cons]at hj
    rcases hj with hj|hj
    ·exact hj
    ·exact g4 j hj
  |false=>
   rw[hz]at hd
   simp only[cond_false]at hd⊢
   obtain⟨_,t,ht,hy⟩:=Wk.cf (Wk.lK zs _ _ _ _ _ _ (off+1) hd)
   obtain⟨r,h1,h2,h3,h4⟩:=JR (sc:=true) hx hi ht
   obtain⟨c,rfl⟩:=yA (h4 rfl)
   obtain⟨u,h5,h6,_⟩:=hZ r h1 h2 off _ h3
   obtain⟨rfl,hs⟩:=h6 c rfl
   obtain⟨vs,g1,g2,g3,g4⟩:=Wk.p_ hx hi hp A8 hZ zs _ (off+1) hd
   refine⟨u::vs,by simp[g1],λj v hj=>?_,⟨⟨.c u,hy,.c hs⟩,g3⟩,λj hj=>g4 j (by simpa[dZ]using hj)⟩
   cases j with
   |zero=>simp at hj;subst hj;simpa using h5
   |succ j=>
    have:=g2 j v (by simpa using hj)
    rwa[show base+(off+1)+j=base+off+(j+1) by omega]at this
theorem af1(ez:eZ P cx)(h:Rel M B d up s ρ G a w)(hn:∀n,o.dst=some n->n<a.tmps.size){x:Operand}{t:Nat}(ho:o.op=.load t x)
  (hk:∃k1 v,loadAt cx (cx.nest df) ⟨s.only R,[],ct,[]⟩ t (cB d (Wk.get ⟨s.only R,[],ct,[]⟩) x)=some (k1,v)∧cm d o k1 v=k')(hd:k'.bT S ρ):b_ P M B d up ρ a w s o k'.w Q∧k'.ct.i=ct.i:=by
 have hw:=dL.start h R ct
 obtain⟨hr,hm⟩:=hw.ji x
 obtain⟨k1,v,hv,hk⟩:=hk
 have dh:cm d o k1 v=k':=hk
 subst dh
 have f_:=dq.1 hd
 have exe:∀{val:Value} {b off:Nat},a.eval x=.pointer (some ⟨b,off,none⟩)->(Instr.loadAt t (.pointer (some ⟨b,off,none⟩))).run P w=.ok val w->(execOp a.eval o).run P w=.ok (.value val) w:=by
  intro val b off he hl
  refine DT (x:=Instr.loadAt t (a.eval x)) (by unfold execOp;rw[ho]) ?_
  rw[he];exact hl
 have rv:∀{k0:Wk} {G1:Gh} {ti:TI} {y ix:Lf} {xs:List (List T)} {i wd off b base:Nat} {sc:Bool},cx.ty t=some ti->dL M B d up ρ G a w k0 G1->k0.ct.i=ct.i->
   y.gh ρ=some (.l xs)->ma ρ ix=some i->a.eval x=.pointer (some ⟨b,base+off,none⟩)->
   (∀r,xs[i]?=some r->r.length=wd->∀j t,r[j]?=some t->(sc=true->eA t=true)->∃u,w.cell? ⟨b,base+j,none⟩=some u∧fq G1.q w t u)->
   (k0.row sc y ix wd off ti.sz).1=k1->SV.v ti.ag (k0.row sc y ix wd off ti.sz).2=v->b_ P M B d up ρ a w s o (cm d o k1 v).w Q∧(cm d o k1 v).ct.i=ct.i:=by
  intro k0 G1 ti y ix xs i wd off b base sc gn ve kY hy hi he hZ h1 h2
  subst h1 h2
  obtain⟨vs,g1,g2,g3,g4⟩:=Wk.xi (S:=S) hy hi hZ ti.sz k0 off f_
  have hT:=ez.ty _ _ gn
  refine⟨r9 h (ve.same (Wk.p9 _ _ _ _ _ _ _)) hn (exe he (A6 hT g1 g2)) (A7 hT g3 g1) (λj hj=>by simp[dI,g4]at hj) Q,?_⟩
  rw[nk,(Wk.p9 ti.sz k0 sc y ix wd off).i,kY]
 unfold loadAt at hv
 split at hv
 ·rename_i bx off fg
  rw[fg]at hr hm
  simp only[cU]at hv
  obtain⟨ti,gn,hv⟩:=hv
  split at hv
  ·rename_i ag cs vg
   cases hle:Nat.ble (off+ti.sz) cs.length with
   |false=>simp[hle]at hv
   |true=>
    simp only[hle,cond_true,bP,Prod.mk.injEq]at hv
    obtain⟨rfl,rfl⟩:=hv
    have hb:=hw.rel.bx bx
    rw[<-Wk.bn,vg]at hb
    obtain⟨_,arr,elem,hh,kZ⟩:=hb
    have hT:=ez.ty _ _ gn
    have af2:=(kZ.drop off).take ti.sz
    have hlen:((arr.toList.drop off).take ti.sz).length=ti.sz:=by
     have:=kZ.length
     have:=Nat.le_of_ble_eq_true hle
     simp only[List.length_take,List.length_drop]
     omega
    refine⟨r9 h hw hn (exe hr (A6 hT hlen λj v hj=>?_)) (A7 hT af2 hlen) (λj hj=>?_) Q,by rw[nk]⟩
    ·rw[yq hh]
     rw[List.getElem?_take]at hj
     split at hj
     ·rw[List.getElem?_drop]at hj;simpa using hj
     ·cases hj
    ·have yB:=JP cs off j (JQ _ _ j hj)
     refine hw.rel.gA (.x bx) j ?_
     rw[<-Wk.bn,vg];exact yB
  ·cases hv
 ·rename_i s' ix wd off fg
  rw[fg]at hr
  simp only[cU,bP,Prod.mk.injEq]at hv
  obtain⟨ti,gn,h1,h2⟩:=hv
  obtain⟨xs,i,r,b,base,e1,e2,e3,e4,e5⟩:=hr
  refine rv gn hw rfl e1 e2 e4 (λr' jG hl j t' ht _=>?_) h1 h2
  rw[e3]at jG
  cases jG
  exact(e5 hl).2.2 j t' ht
 ·rename_i id q ix wd off fg
  rw[fg]at hr
  simp only[cU]at hv
  obtain⟨ti,gn,hv⟩:=hv
  obtain⟨p,b,n,cap,i,e1,e2,e3,e4,e5⟩:=hr
  have eU:=hw.obj id
  split at hv
  ·rename_i y hy
   rw[hy]at eU
   obtain⟨tt,ht,b8⟩:=eU
   have qa:∃ys,tt=.l ys:=by cases b8<;>exact⟨_,rfl⟩
   cases ry:(cx.nest df&&ti.zero.any gd&&Nat.beq ti.zero.length ti.sz&&Nat.beq (id%2) 1)with
   |true=>
    simp only[ry,cond_true,bP,Prod.mk.injEq]at hv
    obtain⟨h1,h2⟩:=hv
    subst h1 h2
    have A8:id%2=1:=by
     simp only[bL]at ry
     exact ew ry.2
    have sd:ti.zero.length=ti.sz:=by
     simp only[bL]at ry
     exact ew ry.1.2
    have Rw:=Wk.lK _ _ _ _ _ _ _ _ f_
    obtain⟨z,hz,Ab,af3⟩:=Wk.jq q _ y Rw ht (tU e1) (.inr qa)
    have A9:∃ys,z=.l ys:=by
     rcases af3 with rfl|h'
     ·simp only[mB]at e1;cases e1;simp[jh]at hz;subst hz;exact qa
     ·exact h'
    obtain⟨zs,rfl⟩:=A9
    have lL:=fG.lF p b8 hz ⟨zs,rfl⟩
    simp only[List.nil_append]at lL
    obtain⟨vs,g1,g2,g3,g4⟩:=Wk.p_ (S:=S) (b:=b) (base:=i*wd) (wd:=wd) Ab e3 (tU e1) A8 (λr jG hl j t' jZ=>by
     obtain⟨v',hc,ha,_,hb⟩:=lL.row e2 jG hl j t' jZ
     exact⟨v',hc,ha,λys hy=>hb ys hy rfl⟩) ti.zero _ off f_
    have hT:=ez.ty _ _ gn
    refine⟨r9 h ((hw.same (Wk.fT q _ y)).same (Wk.me _ _ _ _ _ _ _ _)) hn (exe e5 (A6 hT (by rw[g1,sd]) g2)) (A7 hT g3 (by rw[g1,sd])) (λj hj=>?_) Q,?_⟩
    ·have:=g4 j (by simpa[dI]using hj)
     subst this
     rw[fg]at hm
     exact hm j (by simp[dI])
    ·rw[nk,(Wk.me _ _ _ _ _ _ _ _).i,(Wk.fT q _ y).i]
   |false=>
    simp only[ry,cond_false]at hv
    cases hz:ti.zero.any gd with
    |true=>
     simp only[hz,cond_true]at hv
     split at hv
     ·cases jJ:Nat.beq (id%2) 0 with
      |true=>
       simp only[jJ,cond_true,bP,Prod.mk.injEq]at hv
       obtain⟨h1,h2⟩:=hv
       have af4:=ew jJ
       simp only[mB]at e1
       cases e1
       obtain⟨ys,rfl⟩:=qa
       refine rv gn hw rfl ht e3 e5 (λr jG hl j t' jZ _=>?_) h1 h2
       obtain⟨v',hc,ha,_,hb⟩:=b8.row e2 jG hl j t' jZ
       refine⟨v',hc,?_⟩
       cases t' with
       |c u=>obtain⟨rfl,hs⟩:=ha u rfl;exact .c hs
       |l zs=>
        rw[hb zs rfl rfl]
        have bR:eg ys i j=some (.l zs):=by simp[eg,jG,jZ]
        have lL:=fG.lF [(i,j)] b8 (by simp[jh,bR]) ⟨zs,rfl⟩
        exact lL.Rk (.inr ⟨af4,by simp⟩) rfl
      |false=>
      simp only[jJ,cond_false]at hv
      simp only[cU,bP,Prod.mk.injEq]at hv
      obtain⟨k2,dh,h1,h2⟩:=hv
      obtain⟨G2,xj,EU,hH,qI,ph,his⟩:=hw.flat dh
      simp only[mB]at e1
      cases e1
      have Rx:=xj.obj id
      have Ry:k2.get (.o id)=.ob false y:=by
       unfold Wk.flat at dh
       rw[hy]at dh
       cases dh
       simp[Wk.get,Wk.set,St.bI]
      rw[Ry]at Rx
      obtain⟨tt2,JS,qb⟩:=Rx
      obtain⟨ys,rfl⟩:∃ys,tt2=.l ys:=by cases qb<;>exact⟨_,rfl⟩
      refine rv gn xj (by rw[ph]) JS e3 e5 (λr jG hl j t' jZ _=>?_) h1 h2
      obtain⟨v',hc,ha,hb,_⟩:=qb.row (by rw[hH];exact e2) jG hl j t' jZ
      refine⟨v',hc,?_⟩
      cases t' with
      |c u=>obtain⟨rfl,hs⟩:=ha u rfl;exact .c hs
      |l zs=>exact hb zs rfl rfl
     ·cases hv
    |false=>
     simp only[hz,cond_false,bP,Prod.mk.injEq]at hv
     obtain⟨h1,h2⟩:=hv
     subst h1 h2
     have Rw:=Wk.sb _ _ _ _ _ _ _ f_
     obtain⟨z,s_,Ab,sd⟩:=Wk.jq q _ y Rw ht (tU e1) (.inr qa)
     have A9:∃ys,z=.l ys:=by
      rcases sd with rfl|h'
      ·simp only[mB]at e1;cases e1;simp[jh]at s_;subst s_;exact qa
      ·exact h'
     obtain⟨zs,rfl⟩:=A9
     have lL:=fG.lF p b8 s_ ⟨zs,rfl⟩
     simp only[List.nil_append]at lL
     refine rv gn (hw.same (Wk.fT q _ y)) (by rw[(Wk.fT q _ y).i]) Ab e3 e5 (λr jG hl j t' jZ np=>?_) rfl rfl
     obtain⟨v',hc,ha,_,_⟩:=lL.row e2 jG hl j t' jZ
     obtain⟨u,rfl⟩:=yA (np rfl)
     obtain⟨rfl,hs⟩:=ha u rfl
     exact⟨_,hc,.c hs⟩
  ·rename_i y hy
   rw[hy]at eU
   split at hv
   ·simp only[bP,Prod.mk.injEq]at hv
    obtain⟨h1,h2⟩:=hv
    obtain⟨tt,ht,b8⟩:=eU
    obtain⟨ys,rfl⟩:∃ys,tt=.l ys:=by cases b8<;>exact⟨_,rfl⟩
    simp only[mB]at e1
    cases e1
    refine rv gn hw rfl ht e3 e5 (λr jG hl j t' jZ _=>?_) h1 h2
    obtain⟨v',hc,ha,hb,_⟩:=b8.row e2 jG hl j t' jZ
    refine⟨v',hc,?_⟩
    cases t' with
    |c u=>obtain⟨rfl,hs⟩:=ha u rfl;exact .c hs
    |l zs=>exact hb zs rfl rfl
   ·cases hv
  ·rename_i y hy
   rw[hy]at eU
   split at hv
   ·simp only[bP,Prod.mk.injEq]at hv
    obtain⟨h1,h2⟩:=hv
    obtain⟨tt,ht,eG,_⟩:=eU
    simp only[mB]at e1
    cases e1
    rw[e2]at eG
    obtain⟨ys,rfl⟩:∃ys,tt=.l ys:=by
     cases tt with
     |c v=>have:=eG.scalar;cases this.1▸this.2
     |l ys=>exact⟨ys,rfl⟩
    refine rv (b:=b) (base:=i*wd) gn hw rfl ht e3 e5 (λr jG hl j t' jZ _=>?_) h1 h2
    obtain⟨v',hc,oU⟩:=(eG.row jG hl).2.2 j t' jZ
    exact⟨v',by simpa using hc,oU⟩
   ·cases hv
  ·cases hv
 ·cases hv
theorem af5{x i:T}{r:T}(h:Prim.ev .lk [x,i]=some r):∃xs kk n,x=.l xs∧i=.c (.int kk n)∧0<=n∧∃row,xs[n.toNat]?=some row:=by
 simp only[Prim.ev,uY,cU]at h
 obtain⟨row,⟨xs,hx,n,hn,hr⟩,_⟩:=h
 cases x with
 |c v=>simp[T.rows]at hx
 |l ys=>
  simp only[T.rows,bP]at hx
  subst hx
  cases i with
  |l _=>simp[T.int]at hn
  |c v=>
   cases v with
   |int kk m=>
    simp only[T.int,bP]at hn
    subst hn
    split at hr
    ·rename_i h0;exact⟨ys,kk,m,rfl,rfl,h0,row,hr⟩
    ·cases hr
   |_=>simp[T.int]at hn
theorem Rz{x:Lf}{kk:IntKind}{n:Int}(h:x.gh ρ=some (.c (.int kk n)))(h0:0<=n):ma ρ x=some n.toNat:=by
 simp[ma,h,h0]
theorem af6{t:Nat}{ti te:TI}(hT:tX P t ti)(hE:tX P ti.el te)(hk:ti.kd=3){b off len cap:Nat}{kk:IntKind}{n:Int}(h0:0<=n)(hn:n<len):
  (Instr.indexAt t (.slice (some ⟨b,off,none⟩) len cap) (.int kk n)).run P w=.ok (.pointer (some ⟨b,off+n.toNat*te.sz,none⟩)) w:=by
 have hu:=hT.sl hk
 obtain⟨i,z,hi,hs,_,_,_⟩:=hE.info
 simp[Instr.indexAt,asIntOf,run_underlying hu,h0,hn,sizeOf,typeInfo,hi,hs,Addr.add_lit]
theorem JT{lo:Lf}{n:Nat}(h:Ip lo=true)(h2:ma ρ lo=some n):n=0:=by
 unfold Ip at h
 split at h
 ·rename_i k m
  have hm:m=0:=of_decide_eq_true h
  subst hm
  simp[ma,Lf.gh,kV]at h2
  exact h2.symm
 ·cases h
theorem af7(ez:eZ P cx)(h:Rel M B d up s ρ G a w)(hn:∀n,o.dst=some n->n<a.tmps.size){x y:Operand}{t:Nat}(ho:o.op=.indexAddr t x y)
  (hk:jm cx df fP d o oi ⟨s.only R,[],ct,[]⟩=some k')(hd:k'.bT S ρ):b_ P M B d up ρ a w s o k'.w Q∧k'.ct.i=ct.i:=by
 have hw:=dL.start h R ct
 obtain⟨hr,hm⟩:=hw.ji x
 have JM:=(hw.ji y).1
 simp only[jm,ho,indexAt,cU,bP]at hk
 obtain⟨⟨k1,v⟩,⟨ti,gn,te,r_,hv⟩,hk⟩:=hk
 have dh:cm d o k1 v=k':=hk
 subst dh
 have f_:=dq.1 hd
 have hT:=ez.ty _ _ gn
 have hE:=ez.ty _ _ r_
 cases jj:Nat.beq ti.kd 3 with
 |false=>simp[jj]at hv
 |true=>
  have qH:=ew jj
  simp only[jj,cond_true,cU]at hv
  obtain⟨⟨k2,ix⟩,h1,hv⟩:=hv
  have exe:∀{b off len cap:Nat} {kk:IntKind} {n:Int},a.eval x=.slice (some ⟨b,off,none⟩) len cap->a.eval y=.int kk n->0<=n->n<len->
    (execOp a.eval o).run P w=.ok (.value (.pointer (some ⟨b,off+n.toNat*te.sz,none⟩))) w:=by
   intro b off len cap kk n e1 e2 h0 bC
   refine DT (x:=Instr.indexAt t (a.eval x) (a.eval y)) (by unfold execOp;rw[ho]) ?_
   rw[e1,e2];exact af6 hT hE qH h0 bC
  have mD:Wk.fB ⟨s.only R,[],ct,[]⟩ k2:=by
   unfold Wk.one at h1;split at h1
   ·exact Wk.ek h1
   ·cases h1
  have ixv:∀{k3:Wk} {z:Lf},(k3.em .lk [z,ix]).1.bT S ρ->(k3.bT S ρ->k2.bT S ρ)->∃xs kk n row,k3.bT S ρ∧z.ev ρ=.l xs∧a.eval y=.int kk n∧0<=n∧xs[n.toNat]?=some row∧ma ρ ix=some n.toNat:=by
   intro k3 z Ac JU
   obtain⟨It,r,se,_⟩:=Wk.cf Ac
   obtain⟨_,_,t1,ht1,mC⟩:=Wk.iF hw h1 (JU It) JM
   simp only[List.map_cons,List.map_nil,Lf.cb ht1]at se
   obtain⟨xs,kk,n,hx,hi,h0,row,hZ⟩:=af5 se
   subst hi
   obtain⟨e,_⟩:=mC.scalar
   exact⟨xs,kk,n,row,It,hx,e,h0,hZ,Rz ht1 h0⟩
  have A_:∀{xs:List (List T)} {n:Int} {row:List T},0<=n->xs[n.toNat]?=some row->n<xs.length:=by
   intro xs n row h0 hZ
   have:=(List.getElem?_eq_some_iff.1 hZ).1
   omega
  have plain:∀{z:Lf} {tt:T} {val:Value} {k3:Wk} ,k3=k2->z.gh ρ=some tt->fq G.q w tt val->a.eval x=val->k1=(k3.em .lk [z,ix]).1->v=.fp z ix te.sz 0->
    b_ P M B d up ρ a w s o (cm d o k1 v).w Q∧(cm d o k1 v).ct.i=ct.i:=by
   intro z tt val k3 jj hz eG iG e1 e2
   subst jj e1 e2
   obtain⟨xs,kk,n,row,_,hx,he,h0,hZ,cn⟩:=ixv f_ id
   rw[Lf.cb hz]at hx
   subst hx
   have bC:=A_ h0 hZ
   obtain⟨ad,cap,qW,_⟩:=eG.rows
   subst qW
   cases eG with
   |nil=>simp at bC;omega
   | @l _ b off E2 yz cv g1 g2 g3 g4 g5 g6=>
    refine⟨r9 h ((hw.same mD).same (Wk.bX _ _ _)) hn (x:=.fp z ix te.sz 0) (exe iG he h0 bC) ?_ (λi hi=>by simp[dI]at hi) Q,?_⟩
    ·refine⟨xs,n.toNat,row,b,off+n.toNat*te.sz,hz,cn,hZ,rfl,λhl=>?_⟩
     exact(fq.l g1 g2 g3 g4 g5 g6).row hZ hl
    ·rw[nk,(Wk.bX _ _ _).i,mD.i]
  have owned:∀{id:Nat} {q:nh} {p:List (Nat×Nat)} {z:Lf} {zs:List (List T)} {dp:Bool} {k3:Wk},k2.fB k3->(k3.bT S ρ->k2.bT S ρ)->lH ρ id q=some p->
    z.gh ρ=some (.l zs)->fG G w id dp p (.l zs)->a.eval x=G.H id p->M id->k1=(k3.em .lk [z,ix]).1->v=.ep id q ix te.sz 0->
    b_ P M B d up ρ a w s o (cm d o k1 v).w Q∧(cm d o k1 v).ct.i=ct.i:=by
   intro id q p z zs dp k3 hsm JU hp hz b8 iG hM e1 e2
   subst e1 e2
   obtain⟨xs,kk,n,row,_,hx,he,h0,hZ,cn⟩:=ixv f_ JU
   rw[Lf.cb hz]at hx
   cases hx
   have bC:=A_ h0 hZ
   cases b8 with
   |nil hH=>simp at bC;omega
   | @l _ _ _ b E2 yz arr elem cv g1 g2 g3 g4 g5 g6 g7 g8 g9 g10 g11=>
    refine⟨r9 h ((((hw.same mD).same hsm)).same (Wk.bX _ _ _)) hn (x:=.ep id q ix te.sz 0) (exe (by rw[iG,g1]) he h0 bC) ?_ (λi hi=>by simp[dI]at hi;rw[hi];exact hM) Q,?_⟩
    ·exact⟨p,b,_,_,n.toNat,hp,g1,cn,by omega,by simp⟩
    ·rw[nk,(Wk.bX _ _ _).i,hsm.i,mD.i]
  split at hv
  ·rename_i z fg
   rw[fg]at hr
   obtain⟨e,he,qJ,_⟩:=hr
   cases he
   obtain⟨tt,hz,eG⟩:=qJ
   simp only[bP,Prod.mk.injEq]at hv
   exact plain rfl hz eG rfl hv.1.symm hv.2.symm
  ·rename_i id q fg
   rw[fg]at hr hm
   obtain⟨e,he,qJ,_⟩:=hr
   cases he
   obtain⟨p,hp,iG⟩:=qJ
   have hM:M id:=hm id (by simp[dI,dZ])
   have eU:=(hw.same mD).obj id
   split at hv
   ·rename_i q' z hz
    rw[hz]at eU
    obtain⟨tt,ht,b8⟩:=eU
    have qa:∃ys,tt=.l ys:=by cases b8<;>exact⟨_,rfl⟩
    simp only[bP,Prod.mk.injEq]at hv
    obtain⟨e1,e2⟩:=hv
    subst e1
    have Rw:=(Wk.cf f_).1
    obtain⟨u,hu,Ab,sd⟩:=Wk.jq _ _ z Rw ht (tU hp) (.inr qa)
    have A9:∃ys,u=.l ys:=by
     rcases sd with hq0|h'
     ·have hp:=tU hp;rw[hq0]at hp;simp only[hY]at hp;cases hp;simp[jh]at hu;subst hu;exact qa
     ·exact h'
    obtain⟨zs,rfl⟩:=A9
    have lL:=fG.lF p b8 hu ⟨zs,rfl⟩
    simp only[List.nil_append]at lL
    exact owned (Wk.fT _ _ z) (Wk.lI _ _ _) hp Ab lL iG hM rfl e2.symm
   ·rename_i z hz
    rw[hz]at eU
    obtain⟨tt,ht,b8⟩:=eU
    obtain⟨ys,rfl⟩:∃ys,tt=.l ys:=by cases b8<;>exact⟨_,rfl⟩
    simp only[bP,Prod.mk.injEq]at hv
    simp only[mB]at hp
    cases hp
    exact owned (.refl _) (λh=>h) rfl ht b8 iG hM hv.1.symm hv.2.symm
   ·rename_i tk x0 lo z hz
    rw[hz]at eU
    obtain⟨tt,ht,eG,_,F,n0,zs,_,ny,rfl,_,tY,Iu⟩:=eU
    simp only[mB]at hp
    cases hp
    cases sd:Ip lo with
    |false=>
     simp only[sd,cond_false,bP,Prod.mk.injEq]at hv
     exact plain rfl ht eG iG hv.1.symm hv.2.symm
    |true=>
     simp only[sd,cond_true,bP,Prod.mk.injEq]at hv
     have A':n0=0:=JT sd ny
     obtain⟨e1,e2⟩:=hv
     subst e1 e2
     obtain⟨xs,kk,n,row,_,hx,he,h0,hZ,cn⟩:=ixv f_ (λh=>h)
     rw[Lf.cb ht]at hx
     cases hx
     have bC:=A_ h0 hZ
     obtain⟨ad,cap,qW,_⟩:=eG.rows
     rw[qW]at eG
     generalize s9:Value.slice ad zs.length cap=vv at eG
     cases eG with
     |nil=>simp at bC;omega
     | @l _ b off E2 yz cv g1 g2 g3 g4 g5 g6=>
      cases s9
      have Ba:=Iu A' b off _ _ qW
      subst Ba
      refine⟨r9 h ((hw.same mD).same (Wk.bX _ _ _)) hn (x:=.ep id [] ix te.sz 0) (exe (by rw[iG,qW]) he h0 bC) ?_ (λi hi=>by simp[dI]at hi;rw[hi];exact hM) Q,?_⟩
      ·exact⟨[],b,_,_,n.toNat,rfl,qW,cn,by omega,by simp⟩
      ·rw[nk,(Wk.bX _ _ _).i,mD.i]
   ·rename_i pv z _ hz
    rw[hz]at eU
    obtain⟨tt,ht,eG,_⟩:=eU
    simp only[bP,Prod.mk.injEq]at hv
    simp only[mB]at hp
    cases hp
    exact plain rfl ht eG iG hv.1.symm hv.2.symm
   ·cases hv
  ·cases hv
theorem bu.append:∀{cs es:List Ce} {vs us:List Value},bu G w ρ cs vs->bu G w ρ es us->bu G w ρ (cs++es) (vs++us)
 | [],_,[],_,_,h=>h
 | [],_,_::_,_,h,_=>h.elim
 |_::_,_,[],_,h,_=>h.elim
 |_::cs,_,_::vs,_,h,h'=>⟨h.1,bu.append h.2 h'⟩
theorem bu.gP{cs es:List Ce}{vs us:List Value}(off:Nat)(h:bu G w ρ cs vs)(h':bu G w ρ es us):
  bu G w ρ (gP cs off es) (vs.take off++us++vs.drop (off+us.length)):=by
 unfold Go.Proofs.YtjimmglpkndemaaGreatC.gP
 rw[<-h'.length]
 exact((h.take off).append h').append (h.drop _)
theorem JV(cs es:List Ce):dZ (cs++es)=dZ cs++dZ es:=by
 induction cs with
 |nil=>rfl
 |cons c cs ih=>rw[List.cons_append,yo,yo c cs,ih,List.append_assoc]
theorem RA(cs es:List Ce)(off:Nat):∀i∈dZ (gP cs off es),i∈dZ cs∨i∈dZ es:=by
 intro i hi
 unfold gP at hi
 rw[JV,JV]at hi
 simp only[List.mem_append]at hi
 rcases hi with(hi|hi)|hi
 ·exact .inl (JQ _ _ i hi)
 ·exact .inr hi
 ·exact .inl (JP _ _ i hi)
def yC:List Value->Nat->Array Value->Array Value
 | [],_,c=>c
 |v::vs,off,c=>yC vs (off+1) (c.setIfInBounds off v)
theorem RB(off:Nat):∀(vs:List Value) (j:Nat) (c:Array Value),
  (vs.zipIdx j).foldl (λcs p=>cs.setIfInBounds (off+p.2) p.1) c=yC vs (off+j) c
 | [],_,_=>rfl
 |v::vs,j,c=>by
  simp only[List.zipIdx_cons,List.foldl_cons,yC]
  rw[RB off vs (j+1),Nat.add_assoc]
theorem Qg:∀(vs:List Value) (off:Nat) (c:Array Value),(yC vs off c).size=c.size
 | [],_,_=>rfl
 |v::vs,off,c=>by simp[yC,Qg vs]
theorem Qh:∀(vs:List Value) (off:Nat) (c:Array Value) (i:Nat),off+vs.length<=c.size->
  (yC vs off c)[i]?=if off<=i∧i<off+vs.length then vs[i-off]? else c[i]?
 | [],off,c,i,_=>by
  simp only[yC,List.length_nil]
  rw[if_neg (by omega)]
 |v::vs,off,c,i,h=>by
  simp only[List.length_cons]at h
  simp only[yC]
  rw[Qh vs (off+1) _ i (by simp;omega)]
  by_cases h1:i=off
  ·subst h1
   rw[if_neg (by omega),if_pos (by simp)]
   simp[show i<c.size by omega]
  ·by_cases h2:off+1<=i∧i<off+1+vs.length
   ·rw[if_pos h2,if_pos (by simp;omega)]
    rw[show i-off=(i-(off+1))+1 by omega]
    simp
   ·rw[if_neg h2,if_neg (by simp;omega)]
    rw[Array.getElem?_setIfInBounds_ne (by omega)]
theorem E3(vs:List Value)(off:Nat)(c:Array Value)(h:off+vs.length<=c.size):
  (yC vs off c).toList=c.toList.take off++vs++c.toList.drop (off+vs.length):=by
 apply List.ext_getElem?
 intro i
 rw[Array.getElem?_toList,Qh vs off c i h]
 have hl:(c.toList.take off).length=off:=by simp;omega
 by_cases h1:i<off
 ·rw[if_neg (by omega),List.append_assoc,List.getElem?_append_left (by omega),List.getElem?_take,if_pos h1,Array.getElem?_toList]
 ·rw[List.append_assoc,List.getElem?_append_right (by omega),hl]
  by_cases h2:i<off+vs.length
  ·rw[if_pos ⟨by omega,h2⟩,List.getElem?_append_left (by omega)]
  ·rw[if_neg (by omega),List.getElem?_append_right (by omega),List.getElem?_drop,Array.getElem?_toList]
   congr 1
   omega
theorem RC{ag:Bool}{cs:List Ce}{v:Value}(h:fH G w ρ ag cs v):bu G w ρ cs v.cells.toList:=by
 cases ag with
 |true=>obtain⟨vs,rfl,h⟩:=h;exact h
 |false=>
  obtain⟨e,rfl,h,hn⟩:=h
  have:v.cells=#[v]:=by
   cases v<;>first|rfl|exact absurd rfl (hn _)
  rw[this]
  exact⟨h,trivial⟩
theorem wg:∀{cs:List Ce} {vs:List Value},A3 cs vs->bu G w ρ cs vs∧dZ cs=[]
 | [],[],_=>⟨trivial,rfl⟩
 | [],_::_,h=>h.elim
 | .p (.k v)::cs,v'::vs,h=>by
  obtain⟨rfl,hs,h⟩:=h
  obtain⟨h1,h2⟩:=wg h
  exact⟨⟨⟨.c v,by simp[Lf.gh,hs],.c hs⟩,h1⟩,by simp[dZ,h2]⟩
 | .n::cs,v::vs,h=>by
  obtain⟨rfl,h⟩:=h
  obtain⟨h1,h2⟩:=wg h
  exact⟨⟨rfl,h1⟩,by simp[dZ,h2]⟩
 | .p (.k _)::_,[],h=>h.elim
 | .n::_,[],h=>h.elim
 | .p (.a _)::_,[],h=>h.elim
 | .p (.a _)::_,_::_,h=>h.elim
 | .p .e::_,[],h=>h.elim
 | .p .e::_,_::_,h=>h.elim
 | .o _ _::_,[],h=>h.elim
 | .o _ _::_,_::_,h=>h.elim
 | .d::_,[],h=>h.elim
 | .d::_,_::_,h=>h.elim
theorem JW{G1:Gh}{k:Wk}(hw:dL M B d up ρ G a w k G1){fs:List (Nat×Nat)}{place:Nat->Option (Nat×Nat)}(tZ:∀f o,fs[f]?=some o->place f=some o):
  ∀(ps:List (Nat×Operand)) (l:List (Nat×List Ce)) (zs cs:List Ce) (arr:Array Value),parts d k.get fs ps=some l->ye zs l=some cs->bu G1 w ρ zs arr.toList->
   (∀i∈dZ zs,M i)->∃lm,Instr.fill place arr (ps.map λp=>(p.1,a.eval p.2))=some lm∧bu G1 w ρ cs lm.toList∧(∀i∈dZ cs,M i)∧lm.size=arr.size
 | [],l,zs,cs,arr,hp,hc,hz,hi=>by
  simp only[parts,bP]at hp
  subst hp
  simp only[ye,bP]at hc
  subst hc
  exact⟨arr,rfl,hz,hi,rfl⟩
 |(f,x)::ps,l,zs,cs,arr,hp,hc,hz,hi=>by
  simp only[parts,cU]at hp
  obtain⟨of,hf,es,ta,hp⟩:=hp
  cases hle:Nat.beq es.length of.2 with
  |false=>simp[hle]at hp
  |true=>
   simp only[hle,cond_true,cU,bP]at hp
   obtain⟨l',kW,rfl⟩:=hp
   simp only[ye]at hc
   cases hb:Nat.ble (of.1+es.length) zs.length with
   |false=>simp[hb]at hc
   |true=>
    simp only[hb,cond_true]at hc
    obtain⟨hr,hm⟩:=hw.ji x
    unfold cellsOf at ta
    split at ta
    ·rename_i ag es' fg
     cases ta
     rw[fg]at hr hm
     have kZ:=RC hr
     have hlen:=kZ.length
     have sd:=hz.length
     have h1:=ew hle
     have h2:=Nat.le_of_ble_eq_true hb
     simp only[Array.length_toList]at hlen sd
     have lM:of.1+(a.eval x).cells.toList.length<=arr.size:=by simp only[Array.length_toList];omega
     have qX:(((a.eval x).cells.zipIdx.foldl (λcs (c,j)=>cs.setIfInBounds (of.1+j) c) arr))=yC (a.eval x).cells.toList of.1 arr:=by
      rw[<-Array.foldl_toList,Array.toList_zipIdx]
      exact RB of.1 _ 0 arr
     have s_:=bu.gP of.1 hz kZ
     rw[<-E3 _ _ _ lM]at s_
     obtain⟨lm,g1,g2,g3,g4⟩:=JW hw tZ ps l' _ cs (yC (a.eval x).cells.toList of.1 arr) kW hc s_ λi aU=>by
      rcases RA _ _ _ i aU with h|h
      ·exact hi i h
      ·exact hm i h
     refine⟨lm,?_,g2,g3,by rw[g4,Qg]⟩
     simp only[List.map_cons,Instr.fill,tZ f of hf]
     rw[if_neg]
     ·rw[qX];exact g1
     ·simp only[Array.length_toList]at lM
      simp only[Bool.or_eq_true,decide_eq_true_eq]
      omega
    ·cases ta
theorem RD:∀(l:List Field),(∀f∈l,∃i,P.info? f.type=some i)->
  (l.mapM λf=>(do pure (f.offset,<-sizeOf f.type):Sem (Nat×Nat))).run P w=.ok (l.map λf=>(f.offset,((P.info? f.type).map (·.size)).getD 0)) w
 | [],_=>rfl
 |f::l,h=>by
  obtain⟨i,hi⟩:=h f (by simp)
  have ih:=RD l λg hg=>h g (by simp[hg])
  have h1:(do pure (f.offset,<-sizeOf f.type):Sem (Nat×Nat)).run P w=.ok (f.offset,i.size) w:=by
   simp[sizeOf,typeInfo,hi]
  rw[List.mapM_cons,Sem.run_bind,h1]
  simp only[Result.andThen_ok,Sem.run_bind,ih,Sem.run_pure,List.map_cons,hi,Option.map_some,Option.getD_some]
theorem af9(ez:eZ P cx)(h:Rel M B d up s ρ G a w)(hn:∀n,o.dst=some n->n<a.tmps.size){t:Nat}{ps:Array (Nat×Operand)}(ho:o.op=.build t ps)
  (hk:jm cx df fP d o oi ⟨s.only R,[],ct,[]⟩=some k'):b_ P M B d up ρ a w s o k'.w Q∧k'.ct.i=ct.i:=by
 have hw:=dL.start h R ct
 simp only[jm,ho,cU]at hk
 obtain⟨ti,gn,hk⟩:=hk
 cases JX:ti.ag with
 |false=>simp[JX]at hk
 |true=>
 simp only[JX,cond_true,cU,bP]at hk
 obtain⟨l,hl,cs,kZ,hk⟩:=hk
 have dh:cm d o ⟨s.only R,[],ct,[]⟩ (.v true cs)=k':=hk
 subst dh
 have hT:=ez.ty _ _ gn
 obtain⟨i,z,hi,hs,_,hz,yu⟩:=hT.info
 obtain⟨u,hu,nZ,_⟩:=hT.ag
 obtain⟨E4,s_⟩:=wg (G:=G) (w:=w) (ρ:=ρ) yu
 obtain⟨fs,rfl⟩:=nZ.1 JX
 have hlen:=hT.fl fs hu
 have Bb:∀f∈fs.toList,∃i,P.info? f.type=some i:=by
  intro f hf
  obtain⟨n,xk⟩:=List.getElem?_of_mem hf
  have bC:n<ti.fs.length:=by rw[<-hlen,<-Array.length_toList];exact(List.getElem?_eq_some_iff.1 xk).1
  obtain⟨jU,z',i',e1,e2,_,e4,_⟩:=hT.fs n ti.fs[n] (List.getElem?_eq_getElem bC)
  rw[hu]at e1
  cases e1
  rw[<-Array.getElem?_toList,xk]at e2
  cases e2
  exact⟨i',e4⟩
 have tZ:∀(f:Nat) (o:Nat×Nat),ti.fs[f]?=some o->((fs.toList.map λf=>(f.offset,((P.info? f.type).map (·.size)).getD 0)).toArray)[f]?=some o:=by
  intro f o hf
  obtain⟨jU,z',i',e1,e2,e3,e4,_,e6⟩:=hT.fs f o hf
  rw[hu]at e1
  cases e1
  simp only[List.getElem?_toArray,List.getElem?_map,Array.getElem?_toList,e2,Option.map_some,e4,Option.getD_some,e3,e6]
 obtain⟨lm,g1,g2,g3,g4⟩:=JW (a:=a) hw (place:=λf=>((fs.toList.map λf=>(f.offset,((P.info? f.type).map (·.size)).getD 0)).toArray)[f]?) tZ ps.toList l ti.zero cs z.cells hl kZ E4 (λi hi=>by rw[s_]at hi;cases hi)
 refine⟨r9 h hw hn (x:=.v true cs) (v:=.agg lm) (DT (x:=Instr.build t (ps.map λ(i,x)=>(i,a.eval x))) (by unfold execOp;rw[ho]) ?_) ⟨lm.toList,by simp,g2⟩ g3 Q,by rw[nk]⟩
 have af_:(fs.mapM λf=>(do pure (f.offset,<-sizeOf f.type):Sem (Nat×Nat))).run P w=.ok (fs.toList.map λf=>(f.offset,((P.info? f.type).map (·.size)).getD 0)).toArray w:=by
  rw[Array.mapM_eq_mapM_toList,Sem.run_map,RD _ Bb]
  rfl
 have Ad:(ps.map λ(x:Nat×Operand)=>(x.1,a.eval x.2)).toList=ps.toList.map λp=>(p.1,a.eval p.2):=by simp
 simp only[Instr.build,Sem.run_bind,zeroValue,typeInfo,run_program,hi,Result.andThen_ok,Sem.run_pure,hz,run_underlying hu,af_,Ad,g1]
end
section
variable {M M':Nat->Prop} {B:ft} {d:Nat} {up:Nat->Nat->Value} {s:St} {ρ:List T} {G:Gh} {a:Act} {w:World} {S:Nat->aA} {P:Program}
structure Bc (M':Nat->Prop) (d:Nat) (up:Nat->Nat->Value) (ρ:List T) (G':Gh) (a':Act) (w':World) (W:St):Prop where
 tm:∀e n u,e<=d->W.look (.t e n)=some u->cR G' w' ρ u (oP up d a' e n)
 bx:∀b u,W.look (.x b)=some u->gy G' w' ρ b u
 ob:∀i u,W.look (.o i)=some u->cS G' w' ρ i u
 gA:∀r u,W.look r=some u->∀i∈dI u,M' i
 key:∀i,(W.look (.x i)≠none∨W.look (.o i)≠none)->M' i
 iP:∀b l,G'.ω b=some l->M' l.id∧b<w'.heap.size
structure jL (w w':World):Prop where
 os:w'.os=w.os
 tape:w'.tape=w.tape
 output:w'.output=w.output
theorem Rel.step(h:Rel M B d up s ρ G a w){N:Nat->Prop}{G':Gh}{w':World}{W:St}(k:dM (oQ W) N G w G' w'){dst:Option Nat}{v:Value}
  (hN:∀i,N i->¬M i)(hM:∀i,M i->M' i)(hd:∀n,dst=some n->W.look (.t d n)≠none)(so:jL w w')(st:Bc M' d up ρ G' (a.put dst v) w' W):
  Rel M' B d up (s.fS W) ρ G' (a.put dst v) w':=by
 refine⟨?_,?_,?_,?_,?_,st.iP,?_,?_,λi b hb=>⟨hM i (h.bt i b hb).1,?_⟩⟩
 ·intro e n he
  rw[St.bn]
  cases hl:W.look (.t e n)with
  |some u=>exact st.tm e n u he hl
  |none=>
   rw[JK λ⟨h1,h2⟩=>hd n h2 (h1▸hl)]
   exact(h.tm e n he).bw k λi hi hn=>hN i hn (h.gA _ i hi)
 ·intro b
  rw[St.bn]
  cases hl:W.look (.x b)with
  |some u=>exact st.bx b u hl
  |none=>
   by_cases hu:s.get (.x b)=.un
   ·simp only[Option.getD_none,hu];trivial
   ·exact(h.bx b).bw k (λhk=>hk hl) (λhn=>hN b hn (h.key b (.inl hu))) λi hi hn=>hN i hn (h.gA _ i hi)
 ·intro i
  rw[St.bn]
  cases hl:W.look (.o i)with
  |some u=>exact st.ob i u hl
  |none=>
   by_cases hu:s.get (.o i)=.un
   ·simp only[Option.getD_none,hu];trivial
   ·exact(h.ob i).bw k (λp hk=>hk hl) (λhn=>hN i hn (h.key i (.inr hu))) λj hj hn=>hN j hn (h.gA _ j hj)
 ·intro r i hi
  rw[St.bn]at hi
  cases hl:W.look r with
  |some u=>rw[hl]at hi;exact st.gA r u hl i hi
  |none=>rw[hl]at hi;exact hM i (h.gA r i hi)
 ·intro i hi
  rw[St.bn,St.bn]at hi
  rcases hi with hi|hi
  ·cases hl:W.look (.x i)with
   |some u=>exact st.key i (.inl (by rw[hl];simp))
   |none=>rw[hl]at hi;exact hM i (h.key i (.inl hi))
  ·cases hl:W.look (.o i)with
   |some u=>exact st.key i (.inr (by rw[hl];simp))
   |none=>rw[hl]at hi;exact hM i (h.key i (.inr hi))
 ·have:=h.dn;cases dst<;>exact this
 ·obtain⟨b1,b2,b3,b4,b5,b6,b7⟩:=h.base
  refine⟨so.os.trans b1,so.tape.trans b2,so.output.trans b3,Nat.le_trans b4 k.size,λb hb h0=>?_,λb hb=>?_,b7⟩
  ·obtain⟨h1,h2⟩:=b5 b hb h0
   obtain⟨_,h4⟩:=k.free b (Nat.lt_of_lt_of_le hb b4) (AY h1)
   exact⟨k.frs b (Nat.lt_of_lt_of_le hb b4) h1,h4.trans h2⟩
  ·obtain⟨h1,h2⟩:=b6 b hb
   obtain⟨h3,h4⟩:=k.own b .f h1 (λhf=>hf)
   exact⟨h3,h4.trans h2⟩
 ·obtain⟨h1,h2⟩:=h.bt i b hb
  rw[(k.nm i λhn=>hN i hn h1).1];exact h2
theorem af'{W W1 W2:St}(hW:∀r,W.look r=(W2.look r).or (W1.look r)):(∀l,oQ W1 l->oQ W l)∧(∀l,oQ W2 l->oQ W l):=by
 constructor
 ·intro l hl
  cases l with
  |f=>exact hl
  |x b=>show W.look _≠none;rw[hW];intro e;rw[Option.or_eq_none_iff]at e;exact hl e.2
  |o i p=>show W.look _≠none;rw[hW];intro e;rw[Option.or_eq_none_iff]at e;exact hl e.2
 ·intro l hl
  cases l with
  |f=>exact hl
  |x b=>show W.look _≠none;rw[hW];intro e;rw[Option.or_eq_none_iff]at e;exact hl e.1
  |o i p=>show W.look _≠none;rw[hW];intro e;rw[Option.or_eq_none_iff]at e;exact hl e.1
theorem wh{k:Wk}{G1:Gh}(h:Rel M B d up s ρ G a w)(hk:dL M B d up ρ G a w k G1){dst:Option Nat}{v:Value}{w':World}{G2:Gh}{N:Nat->Prop}{W W2:St}
  (hW:∀r,W.look r=(W2.look r).or (k.w.look r))(bw:dM (oQ W2) N G1 w G2 w')(hN:∀i,N i->¬M i)(hM:∀i,M i->M' i)
  (hd:∀n,dst=some n->W2.look (.t d n)≠none)(so:jL w w')(st:Bc M' d up ρ G2 (a.put dst v) w' W2):
  Rel M' B d up (s.fS W) ρ G2 (a.put dst v) w':=by
 have hg:∀r,(k.r.fS W).get r=((k.r.fS k.w).fS W2).get r:=by
  intro r
  rw[St.bn,St.bn,St.bn,hW]
  cases W2.look r<;>rfl
 obtain⟨k1,k2⟩:=af' hW
 refine h.glue (s':=k.r) ((hk.bw.mono k1 λ_ hf=>hf.elim).trans (bw.mono k2 λ_ hn=>hn)) hN hM (λn hn he=>?_) ((hk.rel.step bw hN hM hd so st).congr hg)
 rw[hW,Option.or_eq_none_iff]at he
 exact hd n hn he.1
variable {cx:Cx} {df fP oi:Nat} {R:List bN} {ct:Ct} {k':Wk} {o:Oper} {Q:Exit->Act->World->Prop}
def Mn(M:Nat->Prop)(lo hi:Nat):Nat->Prop:=λi=>M i∨(lo<=i∧i<hi)
theorem Mn.left{M:Nat->Prop}{lo hi i:Nat}(h:M i):Mn M lo hi i:=.inl h
theorem aga{k:Wk}{v:SV}(r:bN):(cm d o k v).w.look r=if o.dst.map (bN.t d)=some r then some v else k.w.look r:=by
 unfold cm
 cases o.dst with
 |none=>simp
 |some n=>
  simp only[Option.map_some,bP]
  split
  ·rename_i he;subst he;exact St.bI _ _ _
  ·rename_i he;exact St.cN _ _ he
def fW(d:Nat)(o:Oper)(v:SV):St:=match o.dst with|some n=>[(.t d n,v)]|none=>[]
theorem JY{v:SV}(r:bN):(fW d o v).look r=if o.dst.map (bN.t d)=some r then some v else none:=by
 unfold fW
 cases o.dst with
 |none=>simp[St.look]
 |some n=>
  simp only[Option.map_some,bP,St.look]
  cases hb:(bN.t d n).beq r with
  |true=>simp[bN.beq_iff.1 hb]
  |false=>
   have:¬(bN.t d n=r):=λe=>by simp[bN.beq_iff.2 e]at hb
   simp[this]
theorem mE(A C:St)(r:bN):(A++C).look r=(A.look r).or (C.look r):=by
 induction A with
 |nil=>simp[St.look]
 |cons x A ih=>
  obtain⟨r',v⟩:=x
  simp only[List.cons_append,St.look]
  cases r'.beq r<;>simp[ih]
theorem vh(r r':bN)(v:SV):St.look [(r,v)] r'=if r=r' then some v else none:=by
 simp only[St.look]
 cases hb:r.beq r' with
 |true=>simp[bN.beq_iff.1 hb]
 |false=>
  have:¬(r=r'):=λe=>by simp[bN.beq_iff.2 e]at hb
  simp[this]
theorem yD{k k0:Wk}{v:SV}{W2:St}(hk:∀r,k.w.look r=(W2.look r).or (k0.w.look r))(r:bN):(cm d o k v).w.look r=((fW d o v++W2).look r).or (k0.w.look r):=by
 rw[aga,mE,JY,hk]
 split<;>simp
theorem vi{k:Wk}{r:bN}{v:SV}(r':bN):(k.w.set r v).look r'=(St.look [(r,v)] r').or (k.w.look r'):=by
 rw[vh]
 by_cases h:r=r'
 ·subst h;rw[St.bI];simp
 ·rw[St.cN _ _ h];simp[h]
theorem lN{x u:SV}{W:St}{r:bN}(h:(fW d o x++W).look r=some u):(∃n,o.dst=some n∧r=.t d n∧u=x)∨W.look r=some u:=by
 rw[mE,JY]at h
 split at h
 ·rename_i he
  cases hd:o.dst with
  |none=>simp[hd]at he
  |some n=>
   simp[hd]at he
   simp at h
   exact .inl ⟨n,rfl,he.symm,h.symm⟩
 ·simp at h
  exact .inr h
theorem j9{r r':bN}{v u:SV}{W:St}(h:St.look ((r,v)::W) r'=some u):(r'=r∧u=v)∨W.look r'=some u:=by
 simp only[St.look]at h
 cases hb:r.beq r' with
 |true=>simp[hb]at h;exact .inl ⟨(bN.beq_iff.1 hb).symm,h.symm⟩
 |false=>simp[hb]at h;exact .inr h
theorem wi{x:SV}{W:St}{n:Nat}(h:o.dst=some n):(fW d o x++W).look (.t d n)≠none:=by
 rw[mE,JY,h];simp
def Gh.box(G:Gh)(b i:Nat):Gh:=
 {G with ω:=λc=>if c=b then some (.x i)else G.ω c,β:=λj=>if j=i then b else G.β j}
theorem agb{s:St}(h:Rel M B d up s ρ G a w){b:Nat}(hb:w.heap.size<=b):G.ω b=none:=by
 cases ho:G.ω b with
 |none=>rfl
 |some l=>have:=(h.iP b l ho).2;omega
theorem E5(w:World)(o:Obj):jL w (w.alloc o):=⟨rfl,rfl,rfl⟩
theorem RE{k:Wk}{G1:Gh}(h:Rel M B d up s ρ G a w)(hk:dL M B d up ρ G a w k G1)(hn:∀n,o.dst=some n->n<a.tmps.size)(hM:¬M k.ct.i)
  {arr:Array Value}{t:TypeId}{ag:Bool}{cs:List Ce}(kZ:bu G1 w ρ cs arr.toList)(E6:∀i∈dZ cs,M i)
  (hx:(execOp a.eval o).run P w=.ok (.value (.pointer (some ⟨w.heap.size,0,none⟩))) (w.alloc (.cells arr t))):
  b_ P (Mn M k.ct.i (k.ct.i+1)) B d up ρ a w s o (cm d o {(k.set (.x k.ct.i) (.v ag cs))with ct:=⟨k.ct.a,k.ct.i+1⟩} (.pt k.ct.i 0)).w Q:=by
 have hf:=agb hk.rel (Nat.le_refl w.heap.size)
 have hK:dM (oQ (fW d o (.pt k.ct.i 0)++[(.x k.ct.i,.v ag cs)])) (λi=>i=k.ct.i) G1 w (G1.box w.heap.size k.ct.i) (w.alloc (.cells arr t)):=by
  refine⟨by simp,λb hb h0=>?_,λb hb h0=>?_,λb l hb _=>?_,λi hi=>?_⟩
  ·have:b≠w.heap.size:=by omega
   exact⟨(Gh.v_ (by simp[Gh.box,this])).trans h0,heap_alloc_old w _ b hb⟩
  ·have:b≠w.heap.size:=by omega
   simp[Gh.box,this,h0]
  ·have bC:=(hk.rel.iP b l hb).2
   have:b≠w.heap.size:=by omega
   exact⟨by simp[Gh.box,this,hb],heap_alloc_old w _ b bC⟩
  ·exact⟨by simp[Gh.box,hi],λ_ _=>rfl⟩
 have dU:∀i∈dZ cs,¬(i=k.ct.i):=λi hi e=>hM (e▸E6 i hi)
 simp only[b_,Oper.wp,hx,Oper.upon]
 refine⟨G1.box w.heap.size k.ct.i,wh h hk (W2:=fW d o (.pt k.ct.i 0)++[(.x k.ct.i,.v ag cs)]) (yD (W2:=[(.x k.ct.i,.v ag cs)]) (k:={(k.set (.x k.ct.i) (.v ag cs))with ct:=⟨k.ct.a,k.ct.i+1⟩}) λr=>by exact vi (k:=k) (r:=.x k.ct.i) (v:=.v ag cs) r)
  hK (λi hi=>by subst hi;exact hM) (λi hi=>.inl hi) (λn oU=>wi oU) (E5 _ _) ?_,A4 _ _ _⟩
 have ij:Mn M k.ct.i (k.ct.i+1) k.ct.i:=.inr ⟨Nat.le_refl _,Nat.lt_succ_self _⟩
 refine⟨λe n u he hl=>?_,λb u hl=>?_,λi u hl=>?_,λr u hl i hi=>?_,λi hi=>?_,λb l hb=>?_⟩
 ·rcases lN hl with⟨n',iA,e1,rfl⟩|hl
  ·cases e1
   rw[iA,Rh (hn _ iA)]
   simp[cR,Gh.box]
  ·rcases j9 hl with⟨e1,_⟩|hl
   ·cases e1
   ·cases hl
 ·rcases lN hl with⟨n',iA,e1,rfl⟩|hl
  ·cases e1
  ·rcases j9 hl with⟨e1,rfl⟩|hl
   ·cases e1
    refine⟨by simp[Gh.box],arr,t,?_,kZ.bw hK dU⟩
    simpa only[Gh.box,if_pos]using heap_alloc_new w (.cells arr t)
   ·cases hl
 ·rcases lN hl with⟨n',iA,e1,rfl⟩|hl
  ·cases e1
  ·rcases j9 hl with⟨e1,rfl⟩|hl
   ·cases e1
   ·cases hl
 ·rcases lN hl with⟨n',iA,e1,rfl⟩|hl
  ·simp[dI]at hi;subst hi;exact ij
  ·rcases j9 hl with⟨e1,rfl⟩|hl
   ·exact .inl (E6 i hi)
   ·cases hl
 ·have:∀r:bN,(r=.x i∨r=.o i)->St.look (fW d o (.pt k.ct.i 0)++[(bN.x k.ct.i,SV.v ag cs)]) r≠none->i=k.ct.i:=by
   intro r hr hl
   obtain⟨u,hu⟩:=Option.ne_none_iff_exists'.1 hl
   rcases lN hu with⟨n',iA,e1,rfl⟩|hl
   ·rcases hr with rfl|rfl<;>cases e1
   ·rcases j9 hl with⟨e1,rfl⟩|hl
    ·rcases hr with rfl|rfl
     ·cases e1;rfl
     ·cases e1
    ·cases hl
  rcases hi with hi|hi
  ·rw[this _ (.inl rfl) hi];exact ij
  ·rw[this _ (.inr rfl) hi];exact ij
 ·simp only[Gh.box]at hb
  split at hb
  ·rename_i he
   cases hb
   exact⟨ij,by simp[he]⟩
  ·obtain⟨h1,h2⟩:=hk.rel.iP b l hb
   exact⟨.inl h1,by simp;omega⟩
theorem agc(ez:eZ P cx)(h:Rel M B d up s ρ G a w)(hn:∀n,o.dst=some n->n<a.tmps.size){t:Nat}(ho:o.op=.alloc t)
  (hk:jm cx df fP d o oi ⟨s.only R,[],ct,[]⟩=some k')(hM:∀i,ct.i<=i->i<k'.ct.i->¬M i):b_ P (Mn M ct.i k'.ct.i) B d up ρ a w s o k'.w Q:=by
 have hw:=dL.start h R ct
 simp only[jm,ho,cU,bP]at hk
 obtain⟨ti,gn,hk⟩:=hk
 have dh:cm d o {(Wk.set ⟨s.only R,[],ct,[]⟩ (.x ct.i) (.v ti.ag ti.zero))with ct:=⟨ct.a,ct.i+1⟩} (.pt ct.i 0)=k':=hk
 have ph:k'.ct.i=ct.i+1:=by rw[<-dh,nk]
 have hT:=ez.ty _ _ gn
 obtain⟨i,z,hi,hs,_,hz,yu⟩:=hT.info
 obtain⟨E4,s_⟩:=wg (G:=G) (w:=w) (ρ:=ρ) yu
 rw[ph,<-dh]
 refine RE (arr:=z.cells) (t:=t) h hw hn (hM _ (Nat.le_refl _) (by simp only[ph];omega)) E4 (λi hi=>by rw[s_]at hi;cases hi) ?_
 unfold execOp
 rw[ho]
 simp[Instr.alloc,zeroValue,typeInfo,hi,hz,newVar,newRow]
theorem agd(ez:eZ P cx)(h:Rel M B d up s ρ G a w)(hn:∀n,o.dst=some n->n<a.tmps.size){t:Nat}{x:Operand}(ho:o.op=.box t x)
  (hk:jm cx df fP d o oi ⟨s.only R,[],ct,[]⟩=some k')(hM:∀i,ct.i<=i->i<k'.ct.i->¬M i):b_ P (Mn M ct.i k'.ct.i) B d up ρ a w s o k'.w Q:=by
 have hw:=dL.start h R ct
 simp only[jm,ho,cU]at hk
 obtain⟨ti,gn,cs,kZ,hk⟩:=hk
 cases hl:Nat.beq cs.length ti.sz with
 |false=>simp[hl]at hk
 |true=>
  simp only[hl,cond_true,bP]at hk
  have dh:cm d o {(Wk.set ⟨s.only R,[],ct,[]⟩ (.x ct.i) (.v ti.ag cs))with ct:=⟨ct.a,ct.i+1⟩} (.pt ct.i 0)=k':=hk
  have ph:k'.ct.i=ct.i+1:=by rw[<-dh,nk]
  obtain⟨hr,hm⟩:=hw.ji x
  unfold cellsOf at kZ
  split at kZ
  ·rename_i ag es fg
   cases kZ
   rw[fg]at hr hm
   rw[ph,<-dh]
   refine RE (arr:=(a.eval x).cells) (t:=t) h hw hn (hM _ (Nat.le_refl _) (by simp only[ph];omega)) (RC hr) hm ?_
   unfold execOp
   rw[ho]
   simp[Instr.box,newVar,newRow]
  ·cases kZ
theorem RF{k:Wk}{G1:Gh}(hk:dL M B d up ρ G a w k G1):∀(xs:List Operand) (bs:List Nat),
  (xs.mapM λx=>match cB d k.get x with| .pt b 0=>some b|_=>none)=some bs->xs.map a.eval=bs.map (λb=>Value.pointer (some ⟨G1.β b,0,none⟩))∧∀b∈bs,M b
 | [],bs,h=>by simp at h;subst h;exact⟨rfl,λ_ h=>by cases h⟩
 |x::xs,bs,h=>by
  simp only[List.mapM_cons,Option.pure_def,Option.bind_eq_bind,cU,bP]at h
  obtain⟨b,hb,yE,RG,rfl⟩:=h
  obtain⟨h1,h2⟩:=RF hk xs yE RG
  obtain⟨hr,hm⟩:=hk.ji x
  split at hb
  ·rename_i b' fg
   cases hb
   rw[fg]at hr hm
   refine⟨by simp only[List.map_cons,h1];rw[show a.eval x=_ from hr],λc hc=>?_⟩
   rcases List.mem_cons.1 hc with rfl|hc
   ·exact hm _ (by simp[dI])
   ·exact h2 c hc
  ·cases hb
theorem age(h:Rel M B d up s ρ G a w)(hn:∀n,o.dst=some n->n<a.tmps.size){fn:Fn}{first yf:Array Operand}(ho:o.op=.makeFunc fn first yf)
  (hk:jm cx df fP d o oi ⟨s.only R,[],ct,[]⟩=some k'):b_ P M B d up ρ a w s o k'.w Q∧k'.ct.i=ct.i:=by
 have hw:=dL.start h R ct
 cases fn with
 |func f=>
  simp only[jm,ho]at hk
  cases he:first.isEmpty with
  |false=>simp[he]at hk
  |true=>
   simp only[he,cond_true,cU,bP]at hk
   obtain⟨bs,RG,hk⟩:=hk
   have dh:cm d o ⟨s.only R,[],ct,[]⟩ (.cl f bs)=k':=hk
   subst dh
   obtain⟨h1,h2⟩:=RF hw _ bs RG
   have JZ:first=#[]:=by simpa using he
   refine⟨r9 h hw hn (x:=.cl f bs) (v:=.func (.func f) #[] (yf.map a.eval)) (DT (x:=Instr.makeFunc (.func f) (first.map a.eval) (yf.map a.eval)) (by unfold execOp;rw[ho]) ?_) ?_ h2 Q,by rw[nk]⟩
   ·rw[JZ];simp[Instr.makeFunc]
   ·show _=_
    congr 1
    apply Array.ext'
    simpa using h1
 |_=>simp[jm,ho]at hk
end
end Go.Proofs.YtjimmglpkndemaaGreatC

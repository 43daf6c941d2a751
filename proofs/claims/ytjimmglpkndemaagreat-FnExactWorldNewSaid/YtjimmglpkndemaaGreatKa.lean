/- The walk by reflection: a part of its laws, for any function. Conditions: none. -/
import Derived.Calls
import Derived.Orders
import Derived.Below
import Derived.KernelRfl
import Derived.Laws.OwnMore
import Derived.Laws.Cells
import Derived.Laws.IdiomCopy
import Derived.Laws.Small
import Derived.Laws.Entries
import Derived.Laws.StructEq
import Derived.Laws.BytesString
namespace Go.Proofs.YtjimmglpkndemaaGreatC
theorem bc.{u}{α:Type u}(a b:α):(some a=some b)=(a=b):=Option.some.injEq a b
theorem bA(a b:Bool):((a&&b)=true)=(a=true∧b=true):=Bool.and_eq_true a b
theorem cm.{u,v}{α:Type u}{β:Type v}{x:Option α}{f:α->Option β}{b:β}:x.bind f=some b↔∃a,x=some a∧f a=some b:=Option.bind_eq_some_iff
theorem du{n m:Nat}(h:Nat.beq n m=true):n=m:=Nat.eq_of_beq_eq_true h
theorem aj{a b:Prop}(x:a)(y:b):a∧b:=⟨x,y⟩
theorem dI:(false=true)=False:=Bool.false_eq_true
set_option linter.unusedVariables false
inductive T where
 |c (v:Value)
 |l (xs:List (List T))
 deriving Inhabited
inductive Lf where
 |k (v:Value)
 |a (n:Nat)
 |e
inductive bf where
 |t (d n:Nat)
 |x (n:Nat)
 |o (n:Nat)
abbrev mq:=List (Lf×Nat×Nat)
inductive Ce where
 |p (x:Lf)
 |o (id:Nat) (q:mq)
 |n
 |d
inductive Pv where
 |z
 |w (tk:Nat) (x lo:Lf)
inductive SV where
 |un
 |v (ag:Bool) (cs:List Ce)
 |pt (bx off:Nat)
 |ep (id:Nat) (q:mq) (ix:Lf) (wd off:Nat)
 |fp (s ix:Lf) (wd off:Nat)
 |tp (vs:List (Bool×List Ce))
 |cl (f:Nat) (bs:List Nat)
 |ob (dp:Bool) (x:Lf)
 |fz (pv:Pv) (x:Lf)
 |tk (x m:Lf)
 |fl (x:Lf)
 |fr (x:Lf)
def bf.beq:bf->bf->Bool
 | .t d n,.t e m=>Nat.beq n m&&Nat.beq d e
 | .x n,.x m=>Nat.beq n m
 | .o n,.o m=>Nat.beq n m
 |_,_=>false
theorem bf.beq_iff{r s:bf}:r.beq s=true↔r=s:=by
 cases r<;>cases s<;>simp[bf.beq,and_comm]
instance:DecidableEq bf:=λr s=>if h:r.beq s=true then isTrue (bf.beq_iff.1 h)else isFalse λe=>h (bf.beq_iff.2 e)
abbrev St:=List (bf×SV)
def St.get(s:St)(r:bf):SV:=
 match s with
 | []=>.un
 |(r',v)::s=>bif r'.beq r then v else St.get s r
def St.set(s:St)(r:bf)(v:SV):St:=
 match s with
 | []=>[(r,v)]
 |(r',v')::s=>bif r'.beq r then(r,v)::s else(r',v')::St.set s r v
theorem St.bN(s:St)(r:bf)(v:SV):(s.set r v).get r=v:=by
 induction s with
 |nil=>simp[St.set,St.get,(bf.beq_iff).2 rfl]
 |cons x s ih=>
  obtain⟨r',v'⟩:=x
  cases h:r'.beq r with
  |true=>simp[St.set,St.get,h,(bf.beq_iff).2 rfl]
  |false=>simp[St.set,St.get,h,ih]
theorem St.dZ(s:St){r r':bf}(v:SV)(h:r≠r'):(s.set r v).get r'=s.get r':=by
 have hb:r.beq r'=false:=by
  cases hh:r.beq r' with
  |false=>rfl
  |true=>exact absurd (bf.beq_iff.1 hh) h
 induction s with
 |nil=>simp[St.set,St.get,hb]
 |cons x s ih=>
  obtain⟨r2,v2⟩:=x
  cases h2:r2.beq r with
  |true=>
   have:=bf.beq_iff.1 h2
   subst this
   simp[St.set,St.get,h2,hb]
  |false=>
   cases h3:r2.beq r' with
   |true=>simp[St.set,St.get,h2,h3]
   |false=>simp[St.set,St.get,h2,h3,ih]
inductive Prim where
 |bin (op:BinOp)
 |bb (op:BinOp)
 |un (op:UnOp)
 |len
 |lens
 |de
 |cell (w j:Nat)
 |bn (w j:Nat)
 |idx
 |sub (w:Nat) (lo hi:Bool)
 |yJ (lo hi:Bool)
 |lit (w:Nat) (ms:List Bool)
 |app (sc:Bool) (w:Nat)
 |mk
 |put (sc:Bool) (w off n:Nat)
 |gU (ms:List Bool) (w off:Nat)
 |bD (w j:Nat)
 |dT (w j:Nat)
 |su (ks:List Nat)
 |mx
 |mn
 |cnv (k:IntKind)
 |bM
 |str
 |byt
 |wx
 |kh
inductive Ch where
 |pr (p:Prim) (xs:List Lf)
 |cl (g:Nat) (xs:List Lf) (m:Nat)
inductive PL where
 |ret (xs:List Lf)
 |ins (i:Ch) (k:PL)
 |ite (c:Nat) (x y:PL)
 |loop (xs:List Lf) (body:PL)
 |join (k:PL) (body:PL)
 |go (j:Nat) (xs:List Lf)
 |qk (tag:Nat) (s:List St)
def T.cC:T:=.l []
def Lf.ev(ρ:List T):Lf->T
 | .k v=>.c v
 | .a n=>ρ.getD n T.cC
 | .e=>.l []
def rL:Nat:=4294967296
def lD(op:BinOp):Value->Value->Option Value
 | .int k a,.int k' b=>
  match op with
  | .shl=>if b<0 then none else some (.int k (k.wrap (a*2^(min b.toNat k.bits))))
  | .shr=>if b<0 then none else some (.int k (a.fdiv (2^(min b.toNat k.bits))))
  |op=>
  if k=k' then
   match op with
   | .and=>some (.int k (k.wrap ((BitVec.ofInt k.bits a&&&BitVec.ofInt k.bits b).toNat:Nat)))
   | .or=>some (.int k (k.wrap ((BitVec.ofInt k.bits a|||BitVec.ofInt k.bits b).toNat:Nat)))
   | .xor=>some (.int k (k.wrap ((BitVec.ofInt k.bits a^^^BitVec.ofInt k.bits b).toNat:Nat)))
   | .andNot=>some (.int k (k.wrap ((BitVec.ofInt k.bits a&&& ~~~BitVec.ofInt k.bits b).toNat:Nat)))
   | .add=>some (.int k (k.wrap (a+b)))
   | .sub=>some (.int k (k.wrap (a-b)))
   | .mul=>some (.int k (k.wrap (a*b)))
   | .quo=>if b=0 then none else some (.int k (k.wrap (a.tdiv b)))
   | .rem=>if b=0 then none else some (.int k (a.tmod b))
   | .eql=>some (.bool (a==b))
   | .neq=>some (.bool (a !=b))
   | .lss=>some (.bool (decide (a<b)))
   | .leq=>some (.bool (decide (a<=b)))
   | .gtr=>some (.bool (decide (a>b)))
   | .geq=>some (.bool (decide (a>=b)))
   |_=>none
  else none
 | .string a,.string b=>
  match op with
  | .add=>if a.size+b.size<rL then some (.string (a++b))else none
  | .eql=>some (.bool (a.toList==b.toList))
  | .neq=>some (.bool !(a.toList==b.toList))
  |_=>none
 |_,_=>none
def Hg(op:BinOp):Value->Value->Option Value
 | .bool a,.bool b=>
  match op with
  | .eql=>some (.bool (a==b))
  | .neq=>some (.bool !(a==b))
  |_=>none
 |_,_=>none
def unV(op:UnOp):Value->Option Value
 | .bool a=>match op with| .not=>some (.bool !a)|_=>none
 | .int k a=>match op with| .neg=>some (.int k (k.wrap (0-a)))|_=>none
 |_=>none
def T.val:T->Option Value
 | .c v=>some v
 | .l _=>none
def T.int:T->Option Int
 | .c (.int _ n)=>some n
 |_=>none
def T.rows:T->Option (List (List T))
 | .l xs=>some xs
 |_=>none
def tM(s i:T):Option (List T):=
 s.rows.bind λxs=>i.int.bind λn=>if 0<=n then xs[n.toNat]? else none
def pU(w:Nat):Nat->List T->List (List T)
 |0,_=>[]
 |n+1,ts=>ts.take w::pU w n (ts.drop w)
def eh:T->Bool
 | .c (.int ..)| .c (.bool _)| .c (.string _)=>true
 |_=>false
def Nq:Nat->Value->Value->Option Bool
 |1,.int k a,.int k' b=>if k=k' then some (a==b)else none
 |4,.bool a,.bool b=>some (a==b)
 |2,.string a,.string b=>some (a==b)
 |_,_,_=>none
def vB:List Nat->List T->List T->Option Bool
 | [],[],[]=>some true
 |k::ks,.c x::xs,.c y::ys=>(Nq k x y).bind λb=>(vB ks xs ys).bind λc=>some (b&&c)
 |_,_,_=>none
def setRow(xs:List (List T))(i off:Nat)(vs:List T):List (List T):=
 xs.modify i λr=>r.take off++vs++r.drop (off+vs.length)
def uo:List Bool->List T->Bool
 |true::ms,t::ts=>eh t&&uo ms ts
 |false::ms,_::ts=>uo ms ts
 |true::_,[]=>false
 |_,_=>true
def okW(w:Nat):List (List T)->Bool
 | []=>true
 |r::_=>Nat.beq r.length w
def qH(us:List (List T))(n k:Nat):Bool:=((us.drop n).take k).all λr=>!r.isEmpty
def xX(us:List (List T))(n k:Nat):List (List T):=us.take n++List.replicate k []++us.drop (n+k)
def OO:List T->Option Int
 | [.c (.int .u8 n)]=>some n
 |_=>none
def wy:List (List T)->Option (List Int)
 | []=>some []
 |r::rs=>(OO r).bind λn=>(wy rs).bind λns=>some (n::ns)
def yK(ns:List Int):ByteArray:=⟨(ns.map λn=>UInt8.ofNat n.toNat).toArray⟩
def Prim.ev:Prim->List T->Option T
 | .bin op,[x,y]=>x.val.bind λa=>y.val.bind λb=>(lD op a b).bind λr=>some (.c r)
 | .bb op,[x,y]=>x.val.bind λa=>y.val.bind λb=>(Hg op a b).bind λr=>some (.c r)
 | .un op,[x]=>x.val.bind λa=>(unV op a).bind λr=>some (.c r)
 | .len,[.l xs]=>some (.c (.int .i64 xs.length))
 | .lens,[.c (.string s)]=>some (.c (.int .i64 s.size))
 | .de,[s,i]=>(tM s i).bind λ_=>some (.c (.bool true))
 | .cell w j,[s,i]=>(tM s i).bind λr=>if r.length=w then r[j]? else none
 | .bn w j,[s,i]=>(tM s i).bind λr=>if r.length=w then(r[j]?).bind λt=>if eh t=true then some t else none else none
 | .idx,[.c (.string s),.c (.int _ n)]=>if 0<=n then(if h:n.toNat<s.size then some (.c (.int .u8 (s.get n.toNat h).toNat))else none)else none
 | .sub w lo hi,.l xs::ts=>if okW w xs=true then
  (match lo,hi,ts with
   |false,false,[]=>some (0,(xs.length:Int))
   |true,false,[.c (.int _ l)]=>some (l,(xs.length:Int))
   |false,true,[.c (.int _ h)]=>some (0,h)
   |true,true,[.c (.int _ l),.c (.int _ h)]=>some (l,h)
   |_,_,_=>none).bind λ(l,h)=>
   if 0<=l then(if l<=h then(if h<=xs.length then some (.l ((xs.take h.toNat).drop l.toNat))else none)else none)else none
  else none
 | .yJ lo hi,.c (.string s)::ts=>
  (match lo,hi,ts with
   |false,false,[]=>some (0,(s.size:Int))
   |true,false,[.c (.int _ l)]=>some (l,(s.size:Int))
   |false,true,[.c (.int _ h)]=>some (0,h)
   |true,true,[.c (.int _ l),.c (.int _ h)]=>some (l,h)
   |_,_,_=>none).bind λ(l,h)=>
   if 0<=l then(if l<=h then(if h<=s.size then some (.c (.string (s.extract l.toNat h.toNat)))else none)else none)else none
 | .lit w ms,ts=>if 0<w then(if uo ms ts=true then some (.l (pU w (ts.length/w) ts))else none)else none
 | .app sc w,[.l xs,.l ys]=>if xs.length+ys.length<rL then(if(!sc||ys.all (·.all eh))=true then(if okW w xs=true then(if okW w ys=true then some (.l (xs++ys))else none)else none)else none)else none
 | .mk,.c (.int _ n):: .c (.int _ c)::ts=>if 0<=n then(if n=c then(if c<rL then some (.l (List.replicate n.toNat ts))else none)else none)else none
 | .put sc w off n,s::i::vs=>(tM s i).bind λr=>if r.length=w then(if off+n<=w then(if vs.length=n then(if(!sc||vs.all eh)=true then
   s.rows.bind λxs=>i.int.bind λk=>some (.l (setRow xs k.toNat off vs))else none)else none)else none)else none
 | .gU ms w off,s::i::vs=>(tM s i).bind λr=>if r.length=w then(if off+vs.length<=w then(if uo ms vs=true then
   s.rows.bind λxs=>i.int.bind λk=>some (.l (setRow xs k.toNat off vs))else none)else none)else none
 | .bD w j,[s,i]=>(tM s i).bind λr=>if r.length=w then(r[j]?).bind λt=>t.rows.bind λxs=>some (.l xs)else none
 | .dT w j,[s,i,v]=>(tM s i).bind λr=>if r.length=w then(if j<w then
   s.rows.bind λxs=>i.int.bind λk=>some (.l (setRow xs k.toNat j [v]))else none)else none
 | .su ks,ts=>(vB ks (ts.take ks.length) (ts.drop ks.length)).bind λb=>some (.c (.bool b))
 | .mx,[.c (.int k a),.c (.int _ b)]=>some (.c (.int k (if b>a then b else a)))
 | .mn,[.c (.int k a),.c (.int _ b)]=>some (.c (.int k (if b<a then b else a)))
 | .bM,[t]=>if eh t=true then some t else none
 | .wx,[.l us,.c (.int _ n)]=>if 0<=n then(if n.toNat+1<=us.length then(if qH us n.toNat 1=true then some (.l (xX us n.toNat 1))else none)else none)else none
 | .kh,[.l us,.c (.int _ n),.l ys]=>if 0<=n then(if n.toNat+ys.length<=us.length then(if qH us n.toNat ys.length=true then some (.l (xX us n.toNat ys.length))else none)else none)else none
 | .cnv k,[.c (.int _ n)]=>some (.c (.int k (k.wrap n)))
 | .str,[.l xs]=>(wy xs).bind λns=>some (.c (.string (yK ns)))
 |_,_=>none
def ia(ts:List T):Nat->Nat->List T
 |_,0=>[]
 |i,m+1=>ts.getD i T.cC::ia ts (i+1) m
abbrev af:=List T->Option (List T)
def Ch.ev(S:Nat->af)(ρ:List T):Ch->Option (List T)
 | .pr p xs=>(p.ev (xs.map (Lf.ev ρ))).bind λt=>some [t]
 | .cl g xs m=>(S g (xs.map (Lf.ev ρ))).bind λts=>some (ia ts 0 m)
def iter{α β:Type}(F:(α->Option β)->α->Option β):Nat->α->Option β
 |0,_=>none
 |n+1,x=>F (iter F n) x
def rounds:Nat:=1099511627776
def PL.den(S:Nat->af)(R:Nat)(K:List af)(ρ:List T):PL->Option (List T)
 | .ret xs=>some (xs.map (Lf.ev ρ))
 | .ins (.pr p xs) k=>(p.ev (xs.map (Lf.ev ρ))).bind λt=>k.den S R K (ρ++[t])
 | .ins (.cl g xs m) k=>(S g (xs.map (Lf.ev ρ))).bind λts=>k.den S R K (ρ++ia ts 0 m)
 | .ite c x y=>match ρ.getD c T.cC with
  | .c (.bool b)=>bif b then x.den S R K ρ else y.den S R K ρ
  |_=>none
 | .loop xs body=>iter (λself ts=>body.den S R (self::K) (ρ++ts)) R (xs.map (Lf.ev ρ))
 | .join k body=>body.den S R ((λts=>k.den S R K (ρ++ts))::K) ρ
 | .go j xs=>match K[j]? with
  |some f=>f (xs.map (Lf.ev ρ))
  |none=>none
 | .qk _ _=>none
structure TI where
 sz:Nat
 bytes:Nat
 ag:Bool
 zero:List Ce
 el:Nat
 fs:List (Nat×Nat)
 kd:Nat
inductive Ck where
 |s
 |p
 |o (dp:Bool)
inductive PS where
 |v (ag:Bool) (n:Nat)
 |x (n:Nat)
structure mV where
 ps:List PS
 rs:List (Bool×List Ck)
structure Ct where
 a:Nat
 i:Nat
abbrev jt:=List (Nat×Bool)
def fact(fs:jt)(n:Nat):Option Bool:=
 match fs with
 | []=>none
 |(m,b)::fs=>bif Nat.beq m n then some b else fact fs n
inductive Cj where
 |k
 |p
 |o (dp:Bool)
 |d
inductive Rj where
 |drop
 |fB (ag:Bool) (cs:List Cj)
 |rows (js:List (Nat×Bool))
abbrev Js:=List (Nat×Bool×Rj)
structure Cx where
 ty:Nat->Option TI
 sg:Nat->Option mV
 fn:Nat->Option Func
 pV:Nat->Nat->Nat->Option Js
 fz:Nat->Nat->Nat->Bool
 nest:Nat->Bool
def jH:Value->Bool
 | .int .. | .bool _| .string _=>true
 |_=>false
def yL:Value->SV
 | .slice none 0 0=>.v false [.n]
 |v=>bif jH v then .v false [.p (.k v)]else .un
def bY(d:Nat)(s:bf->SV):Operand->SV
 | .tmp t=>s (.t d t)
 | .const v=>yL v
 | .func f=>.cl f []
 | .global _=>.un
def cellsOf:SV->Option (List Ce)
 | .v _ cs=>some cs
 |_=>none
def Lf.beq:Lf->Lf->Bool
 | .a n,.a m=>Nat.beq n m
 | .e,.e=>true
 | .k (.int k1 n),.k (.int k2 m)=>decide (k1=k2)&&decide (n=m)
 | .k (.bool b1),.k (.bool b2)=>b1==b2
 | .k (.string s1),.k (.string s2)=>s1.data.toList==s2.data.toList
 |_,_=>false
structure Wk where
 r:St
 w:St
 ct:Ct
 is:List Ch
def St.look(s:St)(r:bf):Option SV:=
 match s with
 | []=>none
 |(r',v)::s=>bif r'.beq r then some v else St.look s r
def Wk.get(k:Wk)(r:bf):SV:=
 match k.w.look r with
 |some v=>v
 |none=>k.r.get r
def Wk.em(k:Wk)(p:Prim)(xs:List Lf):Wk×Lf:=({k with ct:=⟨k.ct.a+1,k.ct.i⟩,is:=.pr p xs::k.is},.a k.ct.a)
def Wk.set(k:Wk)(r:bf)(v:SV):Wk:={k with w:=k.w.set r v}
def Wk.down(k:Wk)(x:Lf):mq->Wk×Lf
 | []=>(k,x)
 |(ix,w,j)::q=>
  let(k,y):=k.em (.bD w j) [x,ix]
  Wk.down k y q
def Wk.up(k:Wk)(x y:Lf):mq->Wk×Lf
 | []=>(k,y)
 |(ix,w,j)::q=>
  let(k,z):=k.em (.bD w j) [x,ix]
  let(k,z):=Wk.up k z y q
  k.em (.dT w j) [x,ix,z]
def Wk.val(k:Wk):Ce->Option (Wk×Lf)
 | .p x=>some (k,x)
 | .n=>some (k,.e)
 | .o id q=>
  match k.get (.o id)with
  | .ob true x=>some (k.down x q)
  | .ob false x| .fz _ x| .fl x=>match q with
   | []=>some (k,x)
   |_=>none
  |_=>none
 | .d=>none
def Wk.iQ(k:Wk):List Ce->Option (Wk×List Lf)
 | []=>some (k,[])
 |c::cs=>(k.val c).bind λ(k,x)=>(Wk.iQ k cs).bind λ(k,xs)=>some (k,x::xs)
def Wk.one(k:Wk):SV->Option (Wk×Lf)
 | .v false [c]=>k.val c
 |_=>none
def Wk.lE(k:Wk)(id:Nat):Option Wk:=
 match k.get (.o id)with
 | .ob _ x=>some (k.set (.o id) (.fz .z x))
 | .fz _ _=>some k
 |_=>none
def Wk.flat(k:Wk)(id:Nat):Option Wk:=
 match k.get (.o id)with
 | .ob _ x=>some (k.set (.o id) (.ob false x))
 | .fz _ _=>some k
 |_=>none
def Wk.ef(k:Wk):List Ce->Option Wk
 | []=>some k
 | .o id _::cs=>(k.lE id).bind λk=>Wk.ef k cs
 |_::cs=>Wk.ef k cs
def eX:Ce->Bool
 | .n=>true
 |_=>false
def Wk.fm(k:Wk)(fz:Bool):List Ce->List Ce->Option (Wk×List Lf×Bool)
 | [],[]=>some (k,[],true)
 |z::zs,.p x::cs=>(Wk.fm k fz zs cs).bind λ(k,xs,dp)=>some (k,x::xs,dp&& !eX z)
 |z::zs,.n::cs=>(Wk.fm k fz zs cs).bind λ(k,xs,dp)=>some (k,.e::xs,dp)
 |z::zs,.o id []::cs=>
  match k.get (.o id)with
  | .fz _ x=>(Wk.fm k fz zs cs).bind λ(k,xs,dp)=>some (k,x::xs,false)
  | .ob d x=>
   bif fz then(Wk.fm (k.set (.o id) (.fz .z x)) fz zs cs).bind λ(k,xs,dp)=>some (k,x::xs,false)
   else bif d then(Wk.fm (k.set (.o id) .un) fz zs cs).bind λ(k,xs,dp)=>some (k,x::xs,dp)
   else(Wk.fm (k.set (.o id) (.fz .z x)) fz zs cs).bind λ(k,xs,dp)=>some (k,x::xs,false)
  |_=>none
 |_,_=>none
def Wk.bJ(k:Wk):List Ce->List Ce->Option (Wk×List Lf)
 | [],[]=>some (k,[])
 |z::zs,.p x::cs=>bif eX z then none else(Wk.bJ k zs cs).bind λ(k,xs)=>some (k,x::xs)
 |z::zs,.n::cs=>(Wk.bJ k zs cs).bind λ(k,xs)=>some (k,.e::xs)
 |z::zs,.o id []::cs=>
  match k.get (.o id)with
  | .ob true x| .fl x=>(Wk.bJ (k.set (.o id) .un) zs cs).bind λ(k,xs)=>some (k,x::xs)
  |_=>none
 |_,_=>none
def Wk.alias(k0:Wk):Wk->List Ce->Wk
 |k,[]=>k
 |k,.o id []::cs=>
  match k0.get (.o id)with
  | .ob true x=>Wk.alias k0 (k.set (.o id) (.fz .z x)) cs
  |_=>Wk.alias k0 k cs
 |k,_::cs=>Wk.alias k0 k cs
def Wk.qI(k:Wk)(fz:Bool)(zs cs:List Ce):Option (Wk×List Lf×Bool):=
 match(bif fz then none else k.bJ zs cs)with
 |some (k1,xs)=>some (Wk.alias k k1 cs,xs,true)
 |none=>k.fm true zs cs
def fU(cs:List Ce)(off:Nat)(vs:List Ce):List Ce:=cs.take off++vs++cs.drop (off+vs.length)
def Wk.row(k:Wk)(sc:Bool)(s ix:Lf)(w off:Nat):Nat->Wk×List Ce
 |0=>(k,[])
 |n+1=>
  let(k,y):=k.em (bif sc then .bn w off else .cell w off) [s,ix]
  let(k,cs):=Wk.row k sc s ix w (off+1) n
  (k,.p y::cs)
def Wk.ot(k:Wk)(y ix:Lf)(id:Nat)(q:mq)(w off:Nat):List Ce->Wk×List Ce
 | []=>(k,[])
 |z::zs=>
  bif eX z then
   let r:=Wk.ot (k.em (.bD w off) [y,ix]).1 y ix id q w (off+1) zs
   (r.1,.o id (q++[(ix,w,off)])::r.2)
  else
   let r:=Wk.ot (k.em (.bn w off) [y,ix]).1 y ix id q w (off+1) zs
   (r.1,.p (k.em (.bn w off) [y,ix]).2::r.2)
def storeAt(cx:Cx)(k:Wk)(t:Nat)(ad v:SV):Option Wk:=
 (cx.ty t).bind λti=>(cellsOf v).bind λcs=>
 bif Nat.beq cs.length ti.sz then
  match ad with
  | .pt bx off=>
   match k.get (.x bx)with
   | .v ag wC=>bif Nat.ble (off+cs.length) wC.length then some (k.set (.x bx) (.v ag (fU wC off cs)))else none
   |_=>none
  | .ep id q ix w off=>
   bif Nat.beq (id%4) 2 then none else
   bif ti.zero.any eX then
    match q with
    | []=>(k.flat id).bind λk=>(k.ef cs).bind λk=>(k.iQ cs).bind λ(k,xs)=>
     match k.get (.o id)with
     | .ob _ x=>
      let(k,y):=k.em (.put false w off xs.length) (x::ix::xs)
      some (k.set (.o id) (.ob false y))
     |_=>none
    |_=>none
   else(k.iQ cs).bind λ(k,xs)=>
    match k.get (.o id)with
    | .ob dp x=>
     bif dp||q.isEmpty then
      let(k,y):=k.down x q
      let(k,y):=k.em (.put true w off xs.length) (y::ix::xs)
      let(k,y):=k.up x y q
      some (k.set (.o id) (.ob dp y))
     else none
    |_=>none
  |_=>none
 else none
def Hh(cx:Cx)(k:Wk)(t:Nat)(ad v:SV):Option Wk:=
 match ad with
 | .ep id [] ix w off=>
  (cx.ty t).bind λti=>(cellsOf v).bind λcs=>
  bif Nat.beq cs.length ti.sz&&ti.zero.any eX&&Nat.beq (id%4) 0 then
   match k.get (.o id)with
   | .ob true x=>(k.bJ ti.zero cs).bind λ(k2,xs)=>
    match k2.get (.o id)with
    | .ob true _=>
     let(k3,y):=k2.em (.gU (ti.zero.map λz=>!eX z) w off) (x::ix::xs)
     some (k3.set (.o id) (.ob true y))
    |_=>none
   |_=>none
  else none
 |_=>none
def loadAt(cx:Cx)(nest:Bool)(k:Wk)(t:Nat):SV->Option (Wk×SV)
 | .pt bx off=>(cx.ty t).bind λti=>
  match k.get (.x bx)with
  | .v _ cs=>bif Nat.ble (off+ti.sz) cs.length then some (k,.v ti.ag ((cs.drop off).take ti.sz))else none
  |_=>none
 | .fp s ix w off=>(cx.ty t).bind λti=>
  let(k,cs):=k.row false s ix w off ti.sz
  some (k,.v ti.ag cs)
 | .ep id q ix w off=>(cx.ty t).bind λti=>
  match k.get (.o id)with
  | .ob true x=>
   bif nest&&ti.zero.any eX&&Nat.beq ti.zero.length ti.sz&&Nat.beq (id%2) 1 then
    let(k,y):=k.down x q
    let(k,cs):=k.ot y ix id q w off ti.zero
    some (k,.v ti.ag cs)
   else bif ti.zero.any eX then
    match q with
    | []=>bif Nat.beq (id%2) 0 then
      let(k,cs):=k.row false x ix w off ti.sz
      some (k,.v ti.ag cs)
     else(k.flat id).bind λk=>
     let(k,cs):=k.row false x ix w off ti.sz
     some (k,.v ti.ag cs)
    |_=>none
   else
    let(k,y):=k.down x q
    let(k,cs):=k.row true y ix w off ti.sz
    some (k,.v ti.ag cs)
  | .ob false x| .fz _ x=>
   match q with
   | []=>
    let(k,cs):=k.row false x ix w off ti.sz
    some (k,.v ti.ag cs)
   |_=>none
  |_=>none
 |_=>none
def mW(i:Nat):Nat:=i+(1-i%2)
def eE(i:Nat):Nat:=i+(4-i%4)%4
def mr(i:Nat):Nat:=i+(6-i%4)%4
theorem Hi(i:Nat):i<=mW i:=by unfold mW;omega
theorem yM(i:Nat):i<=eE i:=by unfold eE;omega
theorem OP(i:Nat):i<=mr i:=by unfold mr;omega
theorem OQ(i:Nat):mr i%4=2:=by unfold mr;omega
def FZ:Lf->Bool
 | .k (.int _ n)=>decide (n=0)
 |_=>false
def Wk.l9(k:Wk)(y ix:Lf)(j:Nat)(w off:Nat):List Ce->Wk×List Ce×Lf
 | []=>(k,[],.e)
 |z::zs=>
  bif eX z then
   let r:=Wk.l9 (k.em (.bD w off) [y,ix]).1 y ix j w (off+1) zs
   (r.1,.o j []::r.2.1,(k.em (.bD w off) [y,ix]).2)
  else
   let r:=Wk.l9 (k.em (.bn w off) [y,ix]).1 y ix j w (off+1) zs
   (r.1,.p (k.em (.bn w off) [y,ix]).2::r.2.1,r.2.2)
def Hj(cx:Cx)(k:Wk)(t:Nat):SV->Option (Wk×SV)
 | .ep id [] ix w off=>(cx.ty t).bind λti=>
  match k.get (.o id)with
  | .fz (.w tk x0 lo) x=>
   match k.get (.o tk)with
   | .tk y0 m=>
    bif FZ lo&&x0.beq y0&&Nat.beq (ti.zero.filter eX).length 1&&Nat.beq ti.zero.length ti.sz then
     let j:=mr k.ct.i
     let r:=k.l9 x ix j w off ti.zero
     let q:=r.1.em .wx [m,ix]
     some ({((q.1.set (.o tk) (.tk y0 q.2)).set (.o j) (.fl r.2.2))with ct:=⟨q.1.ct.a,j+1⟩},.v ti.ag r.2.1)
    else none
   |_=>none
  |_=>none
 |_=>none
def indexAt(cx:Cx)(k:Wk)(t:Nat)(s ix:SV):Option (Wk×SV):=
 (cx.ty t).bind λti=>(cx.ty ti.el).bind λte=>
 bif Nat.beq ti.kd 3 then
  (k.one ix).bind λ(k,i)=>
   match s with
   | .v false [.p x]=>
    let(k,_):=k.em .de [x,i]
    some (k,.fp x i te.sz 0)
   | .v false [.o id q]=>
    match k.get (.o id),q with
    | .ob true x,q=>
     let(k,y):=k.down x q
     let(k,_):=k.em .de [y,i]
     some (k,.ep id q i te.sz 0)
    | .ob false x,[]=>
     let(k,_):=k.em .de [x,i]
     some (k,.ep id [] i te.sz 0)
    | .fz (.w tk x0 lo) x,[]=>
     let(k,_):=k.em .de [x,i]
     bif FZ lo then some (k,.ep id [] i te.sz 0)else some (k,.fp x i te.sz 0)
    | .fz _ x,[]=>
     let(k,_):=k.em .de [x,i]
     some (k,.fp x i te.sz 0)
    |_,_=>none
   |_=>none
 else none
def fieldAt(cx:Cx)(t f:Nat):SV->Option SV
 | .pt bx off=>(cx.ty t).bind λti=>(ti.fs[f]?).bind λo=>some (.pt bx (off+o.1))
 | .ep id q ix w off=>(cx.ty t).bind λti=>(ti.fs[f]?).bind λo=>some (.ep id q ix w (off+o.1))
 | .fp s ix w off=>(cx.ty t).bind λti=>(ti.fs[f]?).bind λo=>some (.fp s ix w (off+o.1))
 |_=>none
def Wk.args(k:Wk):List SV->List PS->Option (Wk×List Lf×List (Nat×Bool×Nat))
 | [],[]=>some (k,[],[])
 | .v ag cs::vs,.v vC n::ps=>
  bif (ag==vC)&&Nat.beq cs.length n then
   (k.iQ cs).bind λ(k,xs)=>(Wk.args k vs ps).bind λ(k,ys,bs)=>some (k,xs++ys,bs)
  else none
 | .pt bx 0::vs,.x n::ps=>
  match k.get (.x bx)with
  | .v ag cs=>
   bif Nat.beq cs.length n then
    (k.ef cs).bind λk=>(k.iQ cs).bind λ(k,xs)=>(Wk.args k vs ps).bind λ(k,ys,bs)=>some (k,xs++ys,(bx,ag,n)::bs)
   else none
  |_=>none
 |_,_=>none
def Ci:SV->List Ce
 | .v _ cs=>cs
 |_=>[]
def uq:List SV->List Ce
 | []=>[]
 |v::vs=>Ci v++uq vs
def oO(sg:mV):Bool:=sg.rs.any (λr=>r.2.any λ | .p| .o false=>true|_=>false)||sg.ps.any λ | .x _=>true|_=>false
def fo:Ct->List Ck->Ct×List Ce×St
 |ct,[]=>(ct,[],[])
 |ct,.o dp::ks=>
  let r:=fo ⟨ct.a+1,mW ct.i+1⟩ ks
  (r.1,.o (mW ct.i) []::r.2.1,(.o (mW ct.i),.ob dp (.a ct.a))::r.2.2)
 |ct,_::ks=>
  let r:=fo ⟨ct.a+1,ct.i⟩ ks
  (r.1,.p (.a ct.a)::r.2.1,r.2.2)
def nc:Ct->List (Bool×List Ck)->Ct×List (Bool×List Ce)×St
 |ct,[]=>(ct,[],[])
 |ct,r::rs=>
  let x:=fo ct r.2
  let y:=nc x.1 rs
  (y.1,(r.1,x.2.1)::y.2.1,x.2.2++y.2.2)
def Bw(a:Nat):Nat->List Ce
 |0=>[]
 |n+1=>.p (.a a)::Bw (a+1) n
def sw:Nat->List (Nat×Bool×Nat)->Nat×St
 |a,[]=>(a,[])
 |a,(bx,ag,n)::bs=>
  let r:=sw (a+n) bs
  (r.1,(.x bx,.v ag (Bw a n))::r.2)
def sx:List (Bool×List Ce)->SV
 | []=>.un
 | [v]=>.v v.1 v.2
 |vs=>.tp vs
def ur:List Nat->Bool
 | []=>true
 |x::xs=>!(xs.any (Nat.beq x))&&ur xs
def OR(k:Wk)(d:Nat)(dst:Option Nat)(g:Nat)(sg:mV)(vs:List SV):Option Wk:=
 (bif oO sg then k.ef (uq vs)else some k).bind λk=>
 (k.args vs sg.ps).bind λ(k,xs,bs)=>
 bif ur (bs.map (·.1))then
  let r:=nc k.ct sg.rs
  let b:=sw r.1.a bs
  let dw:St:=match dst with|some n=>[(.t d n,sx r.2.1)]|none=>[]
  some {r:=k.r,w:=(dw++(r.2.2++b.2))++k.w,ct:=⟨b.1,r.1.i⟩,is:=.cl g xs (b.1-k.ct.a)::k.is}
 else none
def wD(cs:List Ce):List (Nat×List Ce)->Option (List Ce)
 | []=>some cs
 |(off,vs)::ps=>bif Nat.ble (off+vs.length) cs.length then wD (fU cs off vs) ps else none
def parts(d:Nat)(s:bf->SV)(fs:List (Nat×Nat)):List (Nat×Operand)->Option (List (Nat×List Ce))
 | []=>some []
 |(f,x)::ps=>(fs[f]?).bind λo=>(cellsOf (bY d s x)).bind λcs=>bif Nat.beq cs.length o.2 then(parts d s fs ps).bind λl=>some ((o.1,cs)::l)else none
def lF:Ce->Nat
 | .p (.k (.int _ _))=>1
 | .p (.k (.string _))=>2
 | .p (.k (.bool _))=>4
 |_=>0
def OS(k:Wk)(op:BinOp)(ks:List Nat)(xs ys:List Ce):Option (Wk×Lf):=
 (k.iQ xs).bind λ(k,xs)=>(k.iQ ys).bind λ(k,ys)=>
  let(k,r):=k.em (.su ks) (xs++ys)
  match op with
  | .eql=>some (k,r)
  | .neq=>some (k.em (.un .not) [r])
  |_=>none
def mC(zs:List Ce):Nat->List Ce
 |0=>[]
 |n+1=>zs++mC zs n
def Hk(k:Wk):SV->Option (Wk×Lf×Bool)
 | .v false [.n]=>some (k,.e,true)
 | .v false [.o id []]=>
  match k.get (.o id)with
  | .ob dp x=>bif Nat.beq (id%4) 2 then none else some (k.set (.o id) .un,x,dp)
  |_=>none
 |_=>none
def Wk.fV(k:Wk):SV->Option Wk
 | .v false [.o j []]=>
  match k.get (.o j)with
  | .fz (.w tk x0 lo) y=>
   match k.get (.o tk)with
   | .tk y0 m=>bif x0.beq y0&&Nat.beq (j%4) 0 then
     let r:=k.em .kh [m,lo,y]
     some ((r.1.set (.o tk) (.tk y0 r.2)).set (.o j) (.fr y))
    else none
   |_=>none
  |_=>none
 |_=>none
def Wk.uu(k:Wk)(b:Bool)(v:SV):Wk:=
 match(bif b then k.fV v else none)with
 |some k'=>k'
 |none=>k
def yN(sl fz:Bool)(k:Wk):SV->Option (Wk×Lf×Bool)
 | .v false [.n]=>some (k,.e,true)
 | .v false [.p x]=>some (k,x,!sl)
 | .v false [.o id q]=>
  bif sl then
   match k.get (.o id),q with
   | .ob dp x,[]=>bif dp&& !fz then some (k.set (.o id) .un,x,true)else some (k.set (.o id) (.ob false x),x,false)
   | .fz _ x,[]=>some (k,x,false)
   | .fr x,[]=>bif fz then none else some (k.set (.o id) .un,x,true)
   |_,_=>none
  else(k.val (.o id q)).bind λr=>some (r.1,r.2,true)
 |_=>none
def Hl(k:Wk)(sl:Bool)(w:Nat)(x y:SV):Option (Wk×Lf):=
 match x with
 | .v false [.o id (s::q)]=>
  match k.get (.o id)with
  | .ob true v=>
   bif sl then none else
    (Wk.one (k.down v (s::q)).1 y).bind λb=>
     some ((b.1.em (.app true w) [(k.down v (s::q)).2,b.2]).1.set (.o id) (.ob false v),(b.1.em (.app true w) [(k.down v (s::q)).2,b.2]).2)
  |_=>none
 |_=>none
def yO(cx:Cx)(k:Wk)(t:Nat)(x:SV)(lo hi:Option SV):Option (Wk×SV):=
 match x with
 | .v false [.o id []]=>
  match k.get (.o id)with
  | .fz (.w tk x0 l0) y=>
   (cx.ty t).bind λti=>(cx.ty ti.el).bind λte=>
   bif Nat.beq ti.kd 3&&FZ l0 then
    (match lo with
     |none=>some (k,[])
     |some l=>(k.one l).bind λ(k,l)=>some (k,[l])).bind λ(k,ls)=>
    (match hi with
     |none=>some (k,[])
     |some h=>(k.one h).bind λ(k,h)=>some (k,[h])).bind λ(k,hs)=>
    let r:=k.em (.sub te.sz lo.isSome hi.isSome) (y::(ls++hs))
    let j:=eE k.ct.i
    some ({(r.1.set (.o j) (.fz (.w tk x0 (ls.headD (.k (.int .i64 0)))) r.2))with ct:=⟨r.1.ct.a,j+1⟩},.v false [.o j []])
   else none
  |_=>none
 |_=>none
def iy(cx:Cx)(cw eW:Nat)(d:Nat)(o:Oper)(oi:Nat)(k:Wk):Option Wk:=
 let put (k:Wk) (v:SV):Wk:=match o.dst with|some n=>k.set (.t d n) v|none=>k
 let one (x:Operand):SV:=bY d k.get x
 let lf (r:Wk×Lf):Option Wk:=some (put r.1 (.v false [.p r.2]))
 match o.op with
 | .move x| .assign x=>some (put k (one x))
 | .alloc t=>(cx.ty t).bind λti=>some (put {(k.set (.x k.ct.i) (.v ti.ag ti.zero))with ct:=⟨k.ct.a,k.ct.i+1⟩} (.pt k.ct.i 0))
 | .box t x=>(cx.ty t).bind λti=>(cellsOf (one x)).bind λcs=>
   bif Nat.beq cs.length ti.sz then some (put {(k.set (.x k.ct.i) (.v ti.ag cs))with ct:=⟨k.ct.a,k.ct.i+1⟩} (.pt k.ct.i 0))else none
 | .build t ps=>(cx.ty t).bind λti=>bif ti.ag then(parts d k.get ti.fs ps.toList).bind λl=>(wD ti.zero l).bind λcs=>some (put k (.v true cs))else none
 | .buildSlice t n ps=>(cx.ty t).bind λti=>(cx.ty ti.el).bind λte=>bif Nat.beq ti.kd 3&&Nat.ble (n*te.sz) 65536&&Nat.blt 0 te.sz then
   (parts d k.get ((List.range n).map λi=>(i*te.sz,te.sz)) ps.toList).bind λl=>(wD (mC te.zero n) l).bind λcs=>
    (k.qI (cx.fz cw eW oi) (mC te.zero n) cs).bind λ(k,xs,dp)=>
     let(k,y):=k.em (.lit te.sz (bif dp then(mC te.zero n).map (λz=>!eX z)else [])) xs
     let id:=eE k.ct.i
     some (put {(k.set (.o id) (.ob dp y))with ct:=⟨k.ct.a,id+1⟩} (.v false [.o id []]))
   else none
 | .makeSlice t l c=>(cx.ty t).bind λti=>(cx.ty ti.el).bind λte=>(k.one (one l)).bind λ(k,n)=>(k.one (one c)).bind λ(k,m)=>
   (k.iQ te.zero).bind λ(k,zs)=>bif Nat.beq ti.kd 3&&Nat.ble te.bytes 65536&&Nat.blt 0 te.sz then
    let(k,y):=k.em .mk (n::m::zs)
    let id:=eE k.ct.i
    some (put {(k.set (.o id) (.ob true y))with ct:=⟨k.ct.a,id+1⟩} (.v false [.o id []]))
   else none
 | .load t a=>(match(bif cx.fz cw eW oi then Hj cx k t (one a)else none)with|some r=>some r|none=>loadAt cx (cx.nest cw) k t (one a)).bind λ(k,v)=>some (put k v)
 | .store t a x=>(match(bif cx.fz cw eW oi then none else Hh cx k t (one a) (one x))with|some k=>some k|none=>storeAt cx k t (one a) (one x)).bind λk=>some (put k .un)
 | .nilCheck x=>match one x with
   | .pt bx off=>some (put k (.pt bx off))
   | .ep id q ix w off=>some (put k (.ep id q ix w off))
   | .fp s ix w off=>some (put k (.fp s ix w off))
   |_=>none
 | .binOp op t x y _=>match one x,one y with
   | .v false [a],.v false [b]=>(cx.ty t).bind λti=>(k.val a).bind λ(k,a)=>(k.val b).bind λ(k,b)=>
     bif Nat.beq ti.kd 4 then lf (k.em (.bb op) [a,b])
     else bif Nat.beq ti.kd 1||Nat.beq ti.kd 2 then lf (k.em (.bin op) [a,b])else none
   | .v true es,.v true bs=>(cx.ty t).bind λti=>bif Nat.beq ti.kd 5&&Nat.beq es.length ti.sz then(OS k op (ti.zero.map lF) es bs).bind lf else none
   |_,_=>none
 | .unOp op _ x=>(k.one (one x)).bind λ(k,a)=>lf (k.em (.un op) [a])
 | .convert s t x=>(cx.ty s).bind λsi=>(cx.ty t).bind λti=>(k.one (one x)).bind λ(k,a)=>
   match ti.zero with
   | [.p (.k (.int kk _))]=>bif Nat.beq ti.kd 1&&Nat.beq si.kd 1 then lf (k.em (.cnv kk) [a])else none
   | [.p (.k (.string _))]=>bif Nat.beq ti.kd 2&&Nat.beq si.kd 3 then(cx.ty si.el).bind λte=>
     match te.zero with
     | [.p (.k (.int .u8 _))]=>bif Nat.beq te.kd 1 then lf (k.em .str [a])else none
     |_=>none
    else none
   |_=>none
 | .slice t x lo hi mx=>match(bif mx.isSome then none else yO cx k t (one x) (lo.map one) (hi.map one))with
  |some (k,v)=>some (put k v)
  |none=>(cx.ty t).bind λti=>(k.ef (Ci (one x))).bind λk=>(k.one (one x)).bind λ(k,a)=>
   match mx with
   |some _=>none
   |none=>
   (match lo with
    |none=>some (k,[])
    |some l=>(k.one (one l)).bind λ(k,l)=>some (k,[l])).bind λ(k,ls)=>
   (match hi with
    |none=>some (k,[])
    |some h=>(k.one (one h)).bind λ(k,h)=>some (k,[h])).bind λ(k,hs)=>
   bif Nat.beq ti.kd 3 then(cx.ty ti.el).bind λte=>lf (k.em (.sub te.sz lo.isSome hi.isSome) (a::(ls++hs)))
   else bif Nat.beq ti.kd 2 then lf (k.em (.yJ lo.isSome hi.isSome) (a::(ls++hs)))else none
 | .fieldAddr t x f=>(fieldAt cx t f (one x)).bind λv=>some (put k v)
 | .indexAddr t x i=>(indexAt cx k t (one x) (one i)).bind λ(k,v)=>some (put k v)
 | .index t x i=>(cx.ty t).bind λti=>(k.one (one x)).bind λ(k,a)=>(k.one (one i)).bind λ(k,i)=>
   bif Nat.beq ti.kd 2 then lf (k.em .idx [a,i])else none
 | .extract x i=>match one x with
   | .tp vs=>(vs[i]?).bind λv=>some (put k (.v v.1 v.2))
   |_=>none
 | .makeFunc (.func f) first wE=>bif first.isEmpty then
   (wE.toList.mapM λx=>match one x with| .pt b 0=>some b|_=>none).bind λbs=>some (put k (.cl f bs))else none
 | .call c=>match c.callee,c.args.toList with
   | .builtin .len,[x]=>((c.argTypes[0]?).bind cx.ty).bind λti=>(k.one (one x)).bind λ(k,a)=>
     bif Nat.beq ti.kd 3 then lf (k.em .len [a])else bif Nat.beq ti.kd 2 then lf (k.em .lens [a])else none
   | .builtin .max,[x,y]=>(k.one (one x)).bind λ(k,a)=>(k.one (one y)).bind λ(k,b)=>lf (k.em .mx [a,b])
   | .builtin .min,[x,y]=>(k.one (one x)).bind λ(k,a)=>(k.one (one y)).bind λ(k,b)=>lf (k.em .mn [a,b])
   | .builtin .append,[x,y]=>match c.argTypes.toList with
    | [t,tx]=>(cx.ty t).bind λti=>(cx.ty tx).bind λtj=>(cx.ty ti.el).bind λte=>
     bif Nat.beq ti.kd 3&&Nat.beq tj.kd 3&&Nat.ble te.bytes 32768&&Nat.blt 0 te.sz then
     let sl:=te.zero.any eX
     match Hl k sl te.sz (one x) (one y)with
     |some r=>some (put r.1 (.v false [.p r.2]))
     |none=>
     (Hk k (one x)).bind λ(k,a,dp)=>(yN sl (cx.fz cw eW oi) (k.uu (sl&& !cx.fz cw eW oi) (one y)) (one y)).bind λ(k,b,tN)=>
     let(k,r):=k.em (.app (!sl) te.sz) [a,b]
     let id:=eE k.ct.i
     some (put {(k.set (.o id) (.ob (dp&&tN) r))with ct:=⟨k.ct.a,id+1⟩} (.v false [.o id []]))
     else none
    |_=>none
   | .value (.func g),xs=>(cx.sg g).bind λsg=>OR k d o.dst g sg (xs.map one)
   |_,_=>none
 |_=>none
def Cl:List Ce->List bf
 | []=>[]
 | .o id _::cs=>.o id::Cl cs
 |_::cs=>Cl cs
def abJ:SV->List bf
 | .v _ cs=>Cl cs
 | .pt bx _=>[.x bx]
 | .ep id _ _ _ _=>[.o id]
 | .cl _ bs=>bs.map .x
 | .tp vs=>vs.flatMap λv=>Cl v.2
 | .fz (.w tk _ _) _=>[.o tk]
 |_=>[]
def uv(o:Oper):List Nat:=o.op.operands.toList.filterMap λ | .tmp t=>some t|_=>none
def deep(s:St):List bf->List bf
 | []=>[]
 |r::rs=>abJ (s.get r)++deep s rs
def abK:Op->Bool
 | .move _| .assign _| .fieldAddr .. | .build .. | .box .. | .makeFunc .. | .nilCheck _| .alloc _| .extract ..=>false
 |_=>true
def abL:Op->Bool
 | .load .. | .call _=>true
 |_=>false
def Hm:List bf->List bf
 | []=>[]
 | .o n::rs=>.o n::Hm rs
 |_::rs=>Hm rs
def Ho:List bf->List bf
 | []=>[]
 | .x n::rs=>.x n::Ho rs
 |_::rs=>Ho rs
def Cm(d:Nat)(s:St)(o:Oper):List bf:=
 let ts:=(uv o).map (bf.t d)
 bif abK o.op then
  let m:=deep s ts
  let b:=deep s (Ho m)
  ts++m++b++bif abL o.op then deep s (Hm (m++b))else []
 else ts
def St.only(s:St):List bf->St
 | []=>[]
 |r::rs=>(r,s.get r)::St.only s rs
def St.eY(s:St):St->St
 | []=>s
 |(r,v)::w=>(St.eY s w).set r v
structure Tr where
 rd:List bf
 wr:List bf
def Cn(xs ys:List bf):Bool:=xs.any λx=>ys.any x.beq
def Co(a b:Tr):Bool:=!Cn a.wr b.rd&& !Cn a.wr b.wr&& !Cn a.rd b.wr
def lN:List Nat->List Oper->List Nat
 |acc,[]=>acc
 |acc,o::os=>lN (acc++[o.after.toList.foldl (λs e=>bif Region.binds .any e&&Nat.blt e.on acc.length then s|||(2^e.on)|||(acc.getD e.on 0)else s) 0]) os
def wF:Nat->List Oper->Bool
 |_,[]=>true
 |i,o::os=>o.after.toList.all (λe=>!Region.binds .any e||Nat.blt e.on i)&&wF (i+1) os
def vD(nt:Nat):Code->Bool
 | .region _ ops _=>ops.toList.all λo=>match o.dst with|some n=>Nat.blt n nt|none=>true
 | .seq a b=>vD nt a&&vD nt b
 | .cond _ a b=>vD nt a&&vD nt b
 | .block _ a=>vD nt a
 | .loop a=>vD nt a
 | .scope a=>vD nt a
 |_=>true
def Cp(bj:Nat)(t:Tr):Nat->List Tr->Bool
 |_,[]=>true
 |i,u::us=>(Nat.testBit bj i||Co u t)&&Cp bj t (i+1) us
def yP:List Tr->List Tr->List Nat->Bool
 |done,t::ts,b::bs=>Cp b t 0 done&&yP (done++[t]) ts bs
 |_,_,_=>true
def Hp(s:SV):Option Lf:=
 match s with
 | .v false [.p x]=>some x
 |_=>none
inductive Dec where
 |nil
 |is (b:Bool)
 |ask (n:Nat)
 |no
def pW(fs:jt)(s:SV):Dec:=
 match s with
 | .tp _=>.nil
 |s=>
 match Hp s with
 |some (.k (.bool b))=>.is b
 |some (.a n)=>match fact fs n with
  |some b=>.is b
  |none=>.ask n
 |_=>.no
def wrap:List Ch->PL->PL
 | [],k=>k
 |i::is,k=>wrap is (.ins i k)
abbrev KP:=Nat->St->Ct->jt->Option PL
def Cq(cx:Cx)(d:Nat)(s:St)(o:Oper):Option (Nat×List SV):=
 match o.op with
 | .call c=>match c.callee with
  | .value x=>match bY d s.get x with
   | .cl g bs=>match cx.sg g with
    |some _=>none
    |none=>some (g,c.args.toList.map (bY d s.get)++bs.map λb=>.pt b 0)
   |_=>none
  |_=>none
 |_=>none
abbrev mD:=Nat->Nat->List SV->Nat->St->Ct->jt->(List SV->KP)->Option PL
def tO:List SV->Option (List (Bool×List Ce))
 | []=>some []
 | .v ag cs::vs=>(tO vs).bind λl=>some ((ag,cs)::l)
 |_=>none
def pJ:List Ch->Nat
 | []=>0
 | .pr _ _::is=>pJ is+1
 | .cl _ _ m::is=>pJ is+m
def Lf.iO(a:Nat):Lf->Bool
 | .a n=>Nat.blt n a
 |_=>true
def qJ:Nat->List Ch->Bool
 |_,[]=>true
 |e,.pr _ xs::is=>Nat.blt 0 e&&xs.all (Lf.iO (e-1))&&qJ (e-1) is
 |e,.cl _ xs m::is=>Nat.ble m e&&xs.all (Lf.iO (e-m))&&qJ (e-m) is
def xY(d:Nat)(ops:Array Oper)(o:Oper):List bf:=
 match o.guard with
 |none=>[]
 |some (j,_)=>match(ops[j]?).bind (·.dst)with
  |some g=>[.t d g]
  |none=>[]
def uw(d:Nat)(s:St)(o:Oper)(fs:jt):Option (Dec×SV×SV):=
 match o.op with
 | .pick c a b=>some (pW fs (bY d s.get c),bY d s.get a,bY d s.get b)
 |_=>none
abbrev Rec:=List Tr->Nat->St->Ct->jt->Option PL
def Cr(d:Nat)(ops:Array Oper)(o:Oper)(rc:Rec)(tr:List Tr)(lv:Nat)(s:St)(ct:Ct)(fs:jt):Option PL:=
 match o.dst with
 |some n=>rc (tr++[⟨xY d ops o,[.t d n]⟩]) lv (s.set (.t d n) (.tp [])) ct fs
 |none=>rc (tr++[⟨xY d ops o,[]⟩]) lv s ct fs
def wG(d:Nat)(ops:Array Oper)(o:Oper)(rc:Rec)(tr:List Tr)(lv:Nat)(s:St)(ct:Ct)(fs:jt)(v:SV):Option PL:=
 match o.dst with
 |some n=>rc (tr++[⟨xY d ops o++(uv o).map (bf.t d),[.t d n]⟩]) lv (s.set (.t d n) v) ct fs
 |none=>none
def Cs(d:Nat)(o:Oper)(rc:Rec)(tr:List Tr):List SV->KP:=λrs lv s ct fs=>
 match o.dst,rs with
 |none,_=>rc tr lv s ct fs
 |some n,[v]=>rc tr lv (s.set (.t d n) v) ct fs
 |some n,[]=>rc tr lv (s.set (.t d n) .un) ct fs
 |some n,rs=>(tO rs).bind λvs=>rc tr lv (s.set (.t d n) (.tp vs)) ct fs
def doO(cx:Cx)(cP:mD)(cw eW d:Nat)(ops:Array Oper)(draw:Bool)(o:Oper)(i:Nat)(rc:Rec)(tr:List Tr)(lv:Nat)(s:St)(ct:Ct)(fs:jt):Option PL:=
 match uw d s o fs with
 |some (dc,a,b)=>
  match dc with
  | .is true=>wG d ops o rc tr lv s ct fs a
  | .is false=>wG d ops o rc tr lv s ct fs b
  | .ask n=>(wG d ops o rc tr lv s ct ((n,true)::fs) a).bind λx=>(wG d ops o rc tr lv s ct ((n,false)::fs) b).bind λy=>some (.ite n x y)
  | .nil| .no=>some (.qk (cw*100000000+2000000+eW*1000+i) [s])
 |none=>
  match Cq cx d s o with
  |some (g,vs)=>
   bif draw then some (.qk (cw*100000000+4000000+eW*1000+i) [s])else
   cP (d+1) g vs lv s ct fs (Cs d o rc tr)
  |none=>
   match iy cx cw eW d o i ⟨s.only (Cm d s o),[],ct,[]⟩with
   |none=>some (.qk (cw*100000000+1000000+eW*1000+i) [s.only (Cm d s o)])
   |some k=>
    bif Nat.beq k.ct.a (ct.a+pJ k.is)&&Nat.ble ct.i k.ct.i&&qJ k.ct.a k.is then
     (rc (tr++[⟨xY d ops o++Cm d s o,k.w.map (·.1)⟩]) lv (s.eY k.w) k.ct fs).bind λp=>some (wrap k.is p)
    else none
def yQ(cx:Cx)(cP:mD)(cw eW d:Nat)(ops:Array Oper)(draw:Bool)(o:Oper)(i:Nat)(rc:Rec)(tr:List Tr)(lv:Nat)(s:St)(ct:Ct)(fs:jt):Option PL:=
 let run:=doO cx cP cw eW d ops draw o i rc tr lv s ct
 let skip:=Cr d ops o rc tr lv s ct
 match o.guard with
 |none=>run fs
 |some (j,ju)=>
  match(ops[j]?).bind (·.dst)with
  |none=>none
  |some g=>
   match pW fs (s.get (.t d g))with
   | .nil=>skip fs
   | .is b=>bif b==ju then run fs else skip fs
   | .ask n=>(bif true==ju then run ((n,true)::fs)else skip ((n,true)::fs)).bind λx=>
     (bif false==ju then run ((n,false)::fs)else skip ((n,false)::fs)).bind λy=>some (.ite n x y)
   | .no=>some (.qk (cw*100000000+3000000+eW*1000+i) [s])
def Cu(cx:Cx)(cP:mD)(cw eW d:Nat)(ops:Array Oper)(draw:Bool)(fin:List Tr->KP):
  List Oper->Nat->Rec
 | [],_=>fin
 |o::os,i=>yQ cx cP cw eW d ops draw o i (Cu cx cP cw eW d ops draw fin os (i+1))
inductive Ex where
 |normal
 |exit (id:Nat)
 |ret
def ux:mq->mq->Bool
 | [],[]=>true
 |(x,w,j)::p,(x',w',j')::q=>x.beq x'&&Nat.beq w w'&&Nat.beq j j'&&ux p q
 |_,_=>false
def Ce.beq:Ce->Ce->Bool
 | .p x,.p y=>x.beq y
 | .o i s,.o j t=>Nat.beq i j&&ux s t
 | .n,.n=>true
 | .d,.d=>true
 |_,_=>false
def uy:List Ce->List Ce->Bool
 | [],[]=>true
 |c::cs,e::es=>c.beq e&&uy cs es
 |_,_=>false
def wH:List Nat->List Nat->Bool
 | [],[]=>true
 |c::cs,e::es=>Nat.beq c e&&wH cs es
 |_,_=>false
def wI:List (Bool×List Ce)->List (Bool×List Ce)->Bool
 | [],[]=>true
 |(a,cs)::vs,(b,es)::us=>(a==b)&&uy cs es&&wI vs us
 |_,_=>false
def Pv.beq:Pv->Pv->Bool
 | .z,.z=>true
 | .w t x l,.w u y m=>Nat.beq t u&&x.beq y&&l.beq m
 |_,_=>false
def SV.beq:SV->SV->Bool
 | .un,_=>true
 | .v a cs,.v b es=>(a==b)&&uy cs es
 | .pt a b,.pt c d=>Nat.beq a c&&Nat.beq b d
 | .ep i p x w j,.ep i' q x' w' j'=>Nat.beq i i'&&ux p q&&x.beq x'&&Nat.beq w w'&&Nat.beq j j'
 | .fp s x w j,.fp s' x' w' j'=>s.beq s'&&x.beq x'&&Nat.beq w w'&&Nat.beq j j'
 | .tp vs,.tp us=>wI vs us
 | .cl f bs,.cl g cs=>Nat.beq f g&&wH bs cs
 | .ob a x,.ob b y=>(a==b)&&x.beq y
 | .fz p x,.fz q y=>p.beq q&&x.beq y
 | .tk x m,.tk y n=>x.beq y&&m.beq n
 | .fl x,.fl y=>x.beq y
 | .fr x,.fr y=>x.beq y
 |_,_=>false
def yR(d:Nat)(s:St)(n:Nat)(bx:Bool):bf:=
 bif bx then match s.get (.t d n)with| .pt b _=>.x b|_=>.t d n else .t d n
def Hq(d:Nat)(s:St)(r:bf):Js->Bool
 | []=>false
 |(_,_,.rows _)::js=>Hq d s r js
 |(n,bx,_)::js=>(yR d s n bx).beq r||Hq d s r js
def yS:Ct->List Ce->List Cj->Ct×List Ce×St×List Nat
 |ct,_,[]=>(ct,[],[],[])
 |ct,cs,j::js=>
  let c:=cs.headD .d
  match j with
  | .k=>let(ct,es,w,ds):=yS ct cs.tail js;(ct,c::es,w,ds)
  | .p=>let(gv,es,w,ds):=yS ⟨ct.a+1,ct.i⟩ cs.tail js;(gv,.p (.a ct.a)::es,w,ds)
  | .o dp=>
   let(gv,es,w,ds):=yS ⟨ct.a+1,eE ct.i+1⟩ cs.tail js
   (gv,.o (eE ct.i) []::es,(.o (eE ct.i),.ob dp (.a ct.a))::w,match c with| .o id _=>id::ds|_=>ds)
  | .d=>let(ct,es,w,ds):=yS ct cs.tail js;(ct,.d::es,w,match c with| .o id _=>id::ds|_=>ds)
def OT:SV->Option Nat
 | .fz (.w t _ _) _=>some t
 |_=>none
def yT(s:St)(cs:List Ce):Ct->List (Nat×Bool)->Ct×St×List Nat
 |ct,[]=>(ct,[],[])
 |ct,(j,dp)::js=>
  match cs[j]? with
  |some (.o id _)=>
   match OT (s.get (.o id))with
   |some t=>
    match s.get (.o t)with
    | .tk x _=>let(gv,w,ds):=yT s cs ⟨ct.a+1,ct.i⟩ js;(gv,(.o t,.tk x (.a ct.a))::w,t::ds)
    |_=>yT s cs ct js
   |none=>let(gv,w,ds):=yT s cs ⟨ct.a+1,ct.i⟩ js;(gv,(.o id,.ob dp (.a ct.a))::w,id::ds)
  |_=>yT s cs ct js
def ou:SV->List Ce
 | .v _ cs=>cs
 |_=>[]
def Cv(d:Nat)(s:St):Ct->Js->Ct×St×St×List Nat
 |ct,[]=>(ct,[],[],[])
 |ct,(_,_,.drop)::js=>Cv d s ct js
 |ct,(n,bx,.fB ag cj)::js=>
  let r:=yR d s n bx
  let(ct,es,w,ds):=yS ct (ou (s.get r)) cj
  let(ct,ps,ws,dds):=Cv d s ct js
  (ct,(r,.v ag es)::ps,w++ws,ds++dds)
 |ct,(n,bx,.rows rj)::js=>
  let(ct,w,ds):=yT s (ou (s.get (yR d s n bx))) ct rj
  let(ct,ps,ws,dds):=Cv d s ct js
  (ct,ps,w++ws,ds++dds)
def Hr(d:Nat)(s0:St)(js:Js)(ds:List Nat):St->St
 | []=>[]
 |(r,v)::s=>
  let gone:=match r with| .o id=>ds.any (Nat.beq id)|_=>false
  bif Hq d s0 r js||gone then Hr d s0 js ds s else(r,v)::Hr d s0 js ds s
structure Head where
 s0:St
 kept:St
 new:St
 own:St
 c0:Ct
 ct:Ct
 js:Js
def Head.st(h:Head):St:=h.kept++h.own++h.new
def Cw(s:St):List Ce->List Cj->List (Nat×Bool)
 | .o id []::cs,.p::js=>(id,true)::Cw s cs js
 | .o id []::cs,.o false::js=>(id,false)::Cw s cs js
 |_::cs,_::js=>Cw s cs js
 |_,_=>[]
def Cy(cs:List Ce):List (Nat×Bool)->List (Nat×Bool)
 | []=>[]
 |(j,dp)::js=>
  match cs[j]? with
  |some (.o id _)=>bif dp then Cy cs js else(id,false)::Cy cs js
  |_=>Cy cs js
def uz(d:Nat)(s0 s:St):Js->List (Nat×Bool)
 | []=>[]
 |(_,_,.drop)::js=>uz d s0 s js
 |(n,bx,.fB _ cj)::js=>Cw s (ou (s.get (yR d s0 n bx))) cj++uz d s0 s js
 |(n,bx,.rows rj)::js=>Cy (ou (s0.get (yR d s0 n bx))) rj++uz d s0 s js
def Cz(s:St):List (Nat×Bool)->List Nat
 | []=>[]
 |(id,all)::l=>bif all then(match s.get (.o id)with| .ob _ _=>id::Cz s l|_=>Cz s l)else Cz s l
def Bx(d:Nat)(s:St)(ct:Ct)(js:Js):Head:=
 let(gv,ps,ws,ds):=Cv d s ct js
 {s0:=s,kept:=Hr d s js (Cz s (uz d s s js)++ds) s,new:=ps,own:=ws,c0:=ct,ct:=gv,js}
def sy(s:St):List (Nat×Bool)->St
 | []=>s
 |(id,all)::l=>
  match s.get (.o id)with
  | .ob _ x=>sy (s.set (.o id) (bif all then .fz .z x else .ob false x)) l
  |_=>sy s l
abbrev mu:=List (Nat×Option Nat)
def OU(s:St):List Ce->List Ce->List Cj->Option (List Lf×mu)
 | [],[],[]=>some ([],[])
 |c::cs,h::hs,j::js=>
  (OU s cs hs js).bind λ(xs,rn)=>
  match j with
  | .k| .d=>some (xs,rn)
  | .p=>match c with
   | .p x=>some (x::xs,rn)
   | .n=>some (.e::xs,rn)
   | .o id []=>match s.get (.o id)with
    | .fz _ x=>some (x::xs,rn)
    |_=>none
   |_=>none
  | .o dp=>match h with
   | .o i []=>match c with
    | .n=>some (.e::xs,(i,none)::rn)
    | .o id []=>match s.get (.o id)with
     | .ob _ x=>some (x::xs,(i,some id)::rn)
     |_=>none
    |_=>none
   |_=>none
 |_,_,_=>none
def yU(s0 s:St)(cs:List Ce):List (Nat×Bool)->Option (List Lf)
 | []=>some []
 |(j,dp)::js=>
  match cs[j]? with
  |some (.o id _)=>
   match OT (s0.get (.o id))with
   |some t=>
    match s0.get (.o t)with
    | .tk _ _=>match s.get (.o t)with
     | .tk _ m=>(yU s0 s cs js).bind λxs=>some (m::xs)
     |_=>none
    |_=>yU s0 s cs js
   |none=>match s.get (.o id)with
    | .ob _ x=>(yU s0 s cs js).bind λxs=>some (x::xs)
    |_=>none
  |_=>yU s0 s cs js
def CA(d:Nat)(s0 s:St):St->Js->Option (List Lf×mu)
 |ps,(_,_,.drop)::js=>CA d s0 s ps js
 |(r',.v ag hs)::ps,(n,bx,.fB vC cj)::js=>
  (OU s (ou (s.get (yR d s0 n bx))) hs cj).bind λ(xs,rn)=>(CA d s0 s ps js).bind λ(ys,rm)=>some (xs++ys,rn++rm)
 |ps,(n,bx,.rows rj)::js=>
  (yU s0 s (ou (s0.get (yR d s0 n bx))) rj).bind λxs=>(CA d s0 s ps js).bind λ(ys,rm)=>some (xs++ys,rm)
 | [],[]=>some ([],[])
 |_,_=>none
def wJ(a:Nat):mq->Bool
 | []=>true
 |(x,_,_)::q=>x.iO a&&wJ a q
def Ce.iO(a i:Nat):Ce->Bool
 | .p x=>x.iO a
 | .o id q=>Nat.blt id i&&wJ a q
 |_=>true
def yV(a i:Nat):List Ce->Bool
 | []=>true
 |c::cs=>c.iO a i&&yV a i cs
def wK(a i:Nat):List (Bool×List Ce)->Bool
 | []=>true
 |v::vs=>yV a i v.2&&wK a i vs
def Pv.iO(a i:Nat):Pv->Bool
 | .z=>true
 | .w t x l=>Nat.blt t i&&x.iO a&&l.iO a
def SV.iO(a i:Nat):SV->Bool
 | .un=>true
 | .v _ cs=>yV a i cs
 | .pt b _=>Nat.blt b i
 | .ep id q x _ _=>Nat.blt id i&&wJ a q&&x.iO a
 | .fp s x _ _=>s.iO a&&x.iO a
 | .tp vs=>wK a i vs
 | .cl _ bs=>bs.all λb=>Nat.blt b i
 | .ob _ x=>x.iO a
 | .fz p x=>p.iO a i&&x.iO a
 | .tk x m=>x.iO a&&m.iO a
 | .fl x=>x.iO a
 | .fr x=>x.iO a
def mX:mu->Nat->Option (Option Nat)
 | [],_=>none
 |(j,x)::rn,i=>bif Nat.beq j i then some x else mX rn i
def mE:mu->Nat->Option Nat
 | [],_=>none
 |(j,some x)::rn,i=>bif Nat.beq x i then some j else mE rn i
 |(_,none)::rn,i=>mE rn i
def nf(a0:Nat)(xs:List Lf)(n:Nat)(x:Lf):Bool:=
 Nat.ble a0 n&&(match xs[n-a0]? with|some y=>y.beq x|none=>false)
def Hs(s:St)(a0 i0:Nat)(xs:List Lf)(rn:mu)(c h:Ce):Bool:=
 (h.beq c&&h.iO a0 i0)||
 match h,c with
 | .p (.a n),.p x=>nf a0 xs n x
 | .p (.a n),.n=>nf a0 xs n .e
 | .p (.a n),.o id []=>(match s.get (.o id)with| .fz _ x=>nf a0 xs n x|_=>false)
 | .o j [],.n=>Nat.ble i0 j&&(match mX rn j with|some none=>true|_=>false)
 | .o j [],.o id []=>Nat.ble i0 j&&(match mX rn j with|some (some k)=>Nat.beq k id|_=>false)
 | .d,_=>true
 |_,_=>false
def yW(s:St)(a0 i0:Nat)(xs:List Lf)(rn:mu):List Ce->List Ce->Bool
 | [],[]=>true
 |c::cs,h::hs=>Hs s a0 i0 xs rn c h&&yW s a0 i0 xs rn cs hs
 |_,_=>false
def wL(s:St)(a0 i0:Nat)(xs:List Lf)(rn:mu):St->Bool
 | []=>true
 |(r,.v ag hs)::ps=>
  (match r with| .o _=>false| .x b=>Nat.blt b i0| .t _ _=>true)&&
  (match s.get r with| .v vC cs=>(ag==vC)&&yW s a0 i0 xs rn cs hs|_=>false)&&wL s a0 i0 xs rn ps
 |_::_=>false
def uA(s:St)(a0 i0:Nat)(xs:List Lf)(rn:mu):St->Bool
 | []=>true
 |(.o j,.ob dp (.a n))::ps=>
  (match mX rn j with
   |some (some id)=>Nat.ble i0 j&&(match s.get (.o id)with| .ob tN x=>(dp==tN)&&nf a0 xs n x|_=>false)
   |some none=>Nat.ble i0 j&&nf a0 xs n .e
   |none=>Nat.blt j i0&&(match mE rn j with|none=>true|some _=>false)&&(match s.get (.o j)with| .ob tN x=>(dp==tN)&&nf a0 xs n x|_=>false))&&
  uA s a0 i0 xs rn ps
 |(.o j,.tk x (.a n))::ps=>
  (Nat.blt j i0&&(match mE rn j with|none=>true|some _=>false)&&x.iO a0&&(match s.get (.o j)with| .tk y m=>x.beq y&&nf a0 xs n m|_=>false))&&
  uA s a0 i0 xs rn ps
 |_::_=>false
def SV.isU:SV->Bool
 | .un=>true
 |_=>false
def OV(i0:Nat)(rn:mu):bf->Bool
 | .o id=>Nat.blt id i0&&(match mE rn id with|none=>true|some _=>false)
 | .x b=>Nat.blt b i0
 | .t _ _=>true
def CB(s:St)(a0 i0:Nat)(rn:mu):St->Bool
 | []=>true
 |(r,v)::h=>(v.isU||(v.beq (s.get r)&&v.iO a0 i0&&OV i0 rn r))&&CB s a0 i0 rn h
def sA(i0 i1:Nat)(all:mu):mu->Bool
 | []=>true
 |(j,x)::rn=>Nat.ble i0 j&&Nat.blt j i1&&Nat.beq (j%2) 0&&(match x with|none=>true|some id=>!Nat.beq (id%4) 2&&(match mE all id with|some k=>Nat.beq k j|none=>false))&&sA i0 i1 all rn
def Ht(h:Head)(s:St)(xs:List Lf)(rn:mu):Bool:=
 Nat.beq (h.c0.a+xs.length) h.ct.a&&Nat.blt 0 h.ct.i&&Nat.ble h.c0.i h.ct.i&&sA h.c0.i h.ct.i rn rn&&CB s h.c0.a h.c0.i rn h.kept&&uA s h.c0.a h.c0.i xs rn h.own&&wL s h.c0.a h.c0.i xs rn h.new
def gk(d:Nat)(h:Head)(s:St):Option (List Lf):=
 let s1:=sy s (uz d h.s0 s h.js)
 (CA d h.s0 s1 h.new h.js).bind λ(xs,rn)=>bif Ht h s1 xs rn then some xs else none
abbrev KE:=Ex->KP
def qK(d:Nat):St->St
 | []=>[]
 |(.t e n,v)::s=>bif Nat.ble d e then qK d s else(.t e n,v)::qK d s
 |x::s=>x::qK d s
def gV(s:St)(cs:List Ce):List (Nat×Bool)->St
 | []=>s
 |(j,all)::js=>
  match cs[j]? with
  |some (Ce.o id _)=>match s.get (.o id)with
   | .ob _ x=>gV (s.set (.o id) (bif all then .fz .z x else .ob false x)) cs js
   |_=>gV s cs js
  |_=>gV s cs js
def i_(d:Nat)(s:St):Js->St
 | []=>s
 |(n,bx,.rows js)::l=>
  let cs:=ou (s.get (yR d s n bx))
  i_ d (gV s cs js) l
 |_::l=>i_ d s l
def hZ(s:St)(ct:Ct)(cs:List Ce):List (Nat×Bool)->St×Ct
 | []=>(s,ct)
 |(j,_)::js=>
  match cs[j]? with
  |some (Ce.o id [])=>match s.get (.o id)with
   | .ob true x=>bif Nat.beq (id%2) 0 then hZ ((s.set (.o id) (.fz (.w (mr ct.i) x (.k (.int .i64 0))) x)).set (.o (mr ct.i)) (.tk x x)) ⟨ct.a,mr ct.i+1⟩ cs js else hZ s ct cs js
   |_=>hZ s ct cs js
  |_=>hZ s ct cs js
def jv(d:Nat)(s:St)(ct:Ct):Js->St×Ct
 | []=>(s,ct)
 |(n,bx,.rows js)::l=>
  let r:=hZ s ct (ou (s.get (yR d s n bx))) js
  jv d r.1 r.2 l
 |_::l=>jv d s ct l
def OW(d:Nat)(h:Head)(lv tag:Nat):KP:=λlv2 s' gv iR=>
 match gk d h s' with
 |some xs=>some (.go (lv2-lv-1) xs)
 |none=>some (.qk tag [h.st,s'])
def yX(d:Nat)(h:Head)(lv tag:Nat)(K:KE):KE:=λe=>
 match e with
 | .normal=>OW d h lv tag
 |e=>K e
def CC(id:Nat)(K:KE):KE:=λe=>
 match e with
 | .exit i=>bif Nat.beq i id then K .normal else K (.exit i)
 |e=>K e
def abN(cw id:Nat)(ops:Array Oper)(draw:Bool)(k:KP):List Tr->KP:=λtr lv s ct fs=>
 bif draw then
  bif yP [] tr (lN [] ops.toList)&&wF 0 ops.toList then k lv s ct fs else some (.qk (cw*100000000+100000+id) [])
 else k lv s ct fs
def uB(n i:Nat):Array Bool:=(List.replicate i true++List.replicate (n-i) false).toArray
def Hu(ops:Array Oper):Bool:=
 match ops.toList with
 | []=>false
 |o::os=>(o::os).all (λx=>match x.op with| .select ..=>false|_=>true)&&o.guard.isNone&&(match o.op with| .move _=>true|_=>false)&&o.after.toList.all (λe=>!Region.binds .any e)&&
   os.all λy=>y.after.toList.any (λe=>Region.binds .any e&&Nat.beq e.on 0)||o.apart ops y
def CD(ops:Array Oper)(c:Nat)(h:Bool):Bool:=
 Nat.blt c ops.size&&((List.range' c (ops.size-c)).all λj=>(List.range j).all λu=>(h&&Nat.beq u 0)||Nat.testBit ((lN [] ops.toList).getD j 0) u)&&(!h||(Hu ops&&Nat.blt 0 c))
def abO(cx:Cx)(cw id:Nat):Option (Nat×Bool):=match cx.pV cw 6 id with|some ((c,h,_)::_)=>some (c,h)|_=>none
def CE(cx:Cx)(cP:mD)(cw id d:Nat)(ops:Array Oper)(draw:Bool)(k:KP)(lv:Nat)(s:St)(ct:Ct)(fs:jt):Option PL:=
 match(bif draw then abO cx cw id else none)with
 |none=>Cu cx cP cw id d ops draw (abN cw id ops draw k) ops.toList 0 [] lv s ct fs
 |some (c,h)=>
  Cu cx cP cw id d ops true (λtr lv s ct fs=>bif yP [] tr (lN [] ops.toList)&&(wF 0 ops.toList&&CD ops c h)then Cu cx cP cw id d ops false (λ_=>k) (ops.toList.drop c) c [] lv s ct fs else some (.qk (cw*100000000+100000+id) []))
   (ops.toList.take c) 0 [] lv s ct fs
def CF(tag:Nat)(v:SV)(cx cy:jt->Option PL)(s:St)(fs:jt):Option PL:=
 match pW fs v with
 | .is b=>bif b then cx fs else cy fs
 | .ask n=>(cx ((n,true)::fs)).bind λp=>(cy ((n,false)::fs)).bind λq=>some (.ite n p q)
 | .nil| .no=>some (.qk tag [s])
def Hv(cx:Cx)(cw d id:Nat)(s:St):St:=match cx.pV cw 4 id with|none=>s|some js=>i_ d s js
def CG(cx:Cx)(cw d id:Nat)(s:St)(ct:Ct):St×Ct:=match cx.pV cw 5 id with|none=>(s,ct)|some js=>jv d s ct js
def comp(cx:Cx)(cP:mD)(cw d:Nat):Code->Nat->Nat->St->Ct->jt->KE->Option PL
 | .skip,_,lv,s,ct,fs,K=>K .normal lv s ct fs
 | .label _,_,lv,s,ct,fs,K=>K .normal lv s ct fs
 | .seq a b,_,lv,s,ct,fs,K=>
  comp cx cP cw d a 0 lv s ct fs λe=>
   match e with
   | .normal=>λlv s ct fs=>comp cx cP cw d b 0 lv s ct fs K
   |e=>K e
 | .region id ops draw,_,lv,s0,ct0,fs,K=>
  let r5:=CG cx cw d id (Hv cx cw d id s0) ct0
  let s:=r5.1
  let ct:=r5.2
  match cx.pV cw 1 id with
  |none=>CE cx cP cw id d ops draw (K .normal) lv s ct fs
  |some js=>
   let h:=Bx d s ct js
   (K .normal lv h.st h.ct fs).bind λk=>
    (CE cx cP cw id d ops draw (OW d h lv (cw*100000000+200000+id)) (lv+1) s ct fs).bind λb=>some (.join k b)
 | .cond c x y,_,lv,s,ct,fs,K=>
  let key:=match c with| .tmp t=>t|_=>0
  match cx.pV cw 2 key with
  |none=>CF (cw*100000000+5000000+key) (bY d s.get c) (λfs=>comp cx cP cw d x 0 lv s ct fs K) (λfs=>comp cx cP cw d y 0 lv s ct fs K) s fs
  |some js=>
   let h:=Bx d s ct js
   (K .normal lv h.st h.ct fs).bind λk=>
    (CF (cw*100000000+5000000+key) (bY d s.get c) (λfs=>comp cx cP cw d x 0 (lv+1) s ct fs (yX d h lv (cw*100000000+300000+key) K))
     (λfs=>comp cx cP cw d y 0 (lv+1) s ct fs (yX d h lv (cw*100000000+300000+key) K)) s fs).bind λb=>some (.join k b)
 | .block id body,_,lv,s,ct,fs,K=>
  match cx.pV cw 3 id with
  |none=>comp cx cP cw d body id lv s ct fs (CC id K)
  |some js=>
   let h:=Bx d s ct js
   (K .normal lv h.st h.ct fs).bind λk=>
    (comp cx cP cw d body id (lv+1) s ct fs (CC id (yX d h lv (cw*100000000+400000+id) K))).bind λb=>some (.join k b)
 | .loop body,qL,lv,s,ct,fs,K=>
  match cx.pV cw 0 qL with
  |none=>some (.qk (cw*100000000+500000+qL) [s])
  |some js=>
   let h:=Bx d s ct js
   match gk d h s with
   |none=>some (.qk (cw*100000000+600000+qL) [h.st,s])
   |some xs=>(comp cx cP cw d body 0 (lv+1) h.st h.ct fs (yX d h lv (cw*100000000+700000+qL) K)).bind λb=>some (.loop xs b)
 | .exit id,_,lv,s,ct,fs,K=>K (.exit id) lv s ct fs
 | .ret,_,lv,s,ct,fs,K=>K .ret lv s ct fs
 |_,_,_,_,_,_,_=>some (.qk (cw*100000000+6000000) [])
def results(cx:Cx)(d:Nat)(s:St):List ResultVar->Option (List SV)
 | []=>some []
 | .tmp t::rs=>(results cx d s rs).bind λvs=>some (s.get (.t d t)::vs)
 | .cell a t::rs=>(cx.ty t).bind λti=>
  match s.get (.t d a)with
  | .pt bx off=>match s.get (.x bx)with
   | .v _ cs=>bif Nat.ble (off+ti.sz) cs.length then(results cx d s rs).bind λvs=>some (.v ti.ag ((cs.drop off).take ti.sz)::vs)else none
   |_=>none
  |_=>none
def Hw(d:Nat)(s:St):Nat->List SV->St
 |_,[]=>s
 |i,v::vs=>Hw d (s.set (.t d i) v) (i+1) vs
def CH(cx:Cx):Nat->mD
 |0=>λ_ _ _ _ _ _ _ _=>none
 |n+1=>λd g vs lv s ct fs k=>
  (cx.fn g).bind λfn=>fn.body.bind λc=>
   bif Nat.ble vs.length fn.ntmps&&vD fn.ntmps c then
    comp cx (CH cx n) g d c 0 lv (Hw d (qK d s) 0 vs) ct fs λe lv s ct fs=>
     match e with
     | .exit _=>none
     |_=>(results cx d s fn.results.toList).bind λrs=>k rs lv (qK d s) ct fs
   else none
def CI:List Ce->List Ck->List (Nat×Bool)
 | .o id _::cs,.p::ks=>(id,true)::CI cs ks
 | .o id _::cs,.o false::ks=>(id,false)::CI cs ks
 |_::cs,_::ks=>CI cs ks
 |_,_=>[]
def CJ:List SV->List (Bool×List Ck)->List (Nat×Bool)
 |v::vs,r::rs=>CI (ou v) r.2++CJ vs rs
 |_,_=>[]
def yY(s:St):Nat->List PS->List (Nat×Bool)
 |_,[]=>[]
 |i,.v _ _::ps=>yY s (i+1) ps
 |i,.x _::ps=>(uC (ou (s.get (.x i)))).map (λid=>(id,true))++yY s (i+1) ps
 where
 uC:List Ce->List Nat
  | []=>[]
  | .o id _::cs=>id::uC cs
  |_::cs=>uC cs
def Wk.plain(k:Wk):Ce->Option Lf
 | .p x=>some x
 | .n=>some .e
 | .o id []=>match k.get (.o id)with
  | .fz _ x=>some x
  |_=>none
 |_=>none
def Wk.oP(k:Wk):List Ce->Option (List Lf)
 | []=>some []
 |c::cs=>(k.plain c).bind λx=>(Wk.oP k cs).bind λxs=>some (x::xs)
def lG(k:Wk):List Ce->List Ck->Option (Wk×List Lf×List Nat)
 | [],[]=>some (k,[],[])
 | .o id []::cs,.o dp::ks=>
  match k.get (.o id)with
  | .ob tN x=>bif tN==dp&& !Nat.beq (id%4) 2 then(lG k cs ks).bind λ(k,xs,ids)=>some (k,x::xs,id::ids)else none
  |_=>none
 | .n::cs,.o _::ks=>(lG k cs ks).bind λ(k,xs,ids)=>some (k,.e::xs,ids)
 | .p x::cs,.s::ks=>
  (lG k cs ks).bind λ(k,xs,ids)=>
   let(k,y):=k.em .bM [x]
   some (k,y::xs,ids)
 |c::cs,.p::ks=>(k.plain c).bind λx=>(lG k cs ks).bind λ(k,xs,ids)=>some (k,x::xs,ids)
 |_,_=>none
def lk(k:Wk):List SV->List (Bool×List Ck)->Option (Wk×List Lf×List Nat)
 | [],[]=>some (k,[],[])
 | .v ag cs::vs,(vC,ks)::rs=>bif ag==vC then
   (lk k vs rs).bind λ(k,ys,jds)=>(lG k cs ks).bind λ(k,xs,ids)=>some (k,xs++ys,ids++jds)
  else none
 |_,_=>none
def wM(k:Wk):Nat->List PS->Option (List Lf)
 |_,[]=>some []
 |i,.v _ _::ps=>wM k (i+1) ps
 |i,.x n::ps=>
  match k.get (.x i)with
  | .v _ cs=>bif Nat.beq cs.length n then(k.oP cs).bind λxs=>(wM k (i+1) ps).bind λys=>some (xs++ys)else none
  |_=>none
def tP:Nat->Nat->List PS->Nat×St
 |a,_,[]=>(a,[])
 |a,i,.v ag n::ps=>
  let r:=tP (a+n) (i+1) ps
  (r.1,(.t 0 i,.v ag (Bw a n))::r.2)
 |a,i,.x n::ps=>
  let r:=tP (a+n) (i+1) ps
  (r.1,(.t 0 i,.pt i 0)::(.x i,.v true (Bw a n))::r.2)
def Hx(cx:Cx)(fn:Func)(sg:mV):KP:=λlv s ct fs=>
 (results cx 0 s fn.results.toList).bind λvs=>
  let s1:=sy s (CJ vs sg.rs++yY s 0 sg.ps)
  match lk ⟨s1,[],ct,[]⟩ vs sg.rs with
  |none=>some (.qk 90 [s1,vs.map λv=>(.x 0,v)])
  |some (k,xs,ids)=>
   match wM k 0 sg.ps with
   |none=>some (.qk 91 [s1])
   |some ys=>
    bif ur ids then
     bif Nat.beq k.ct.a (ct.a+pJ k.is)&&qJ k.ct.a k.is then some (wrap k.is (.ret (xs++ys)))else none
    else some (.qk 92 [])
def CK(sg:mV):Bool:=!(oO sg&&sg.rs.any λr=>r.2.any λ | .o true=>true|_=>false)
def yZ(cx:Cx)(n cw:Nat)(fn:Func)(sg:mV):Option PL:=
 fn.body.bind λc=>
  let r:=tP 0 0 sg.ps
  bif vD fn.ntmps c&&Nat.ble sg.ps.length fn.ntmps&&CK sg then
   comp cx (CH cx n) cw 0 c 0 0 r.2 ⟨r.1,sg.ps.length+1⟩ [] λe=>
    match e with
    | .exit _=>λ_ _ _ _=>none
    |_=>Hx cx fn sg
  else none
theorem Lf.beq_eq{x y:Lf}(h:x.beq y=true):x=y:=by
 cases x with
 |k v=>
  cases y with
  |k u=>
   cases v<;>cases u<;>simp_all[Lf.beq]
   exact ByteArray.ext h
  |a m=>simp[Lf.beq]at h
  |e=>simp[Lf.beq]at h
 |a n=>
  cases y with
  |a m=>simp[Lf.beq]at h;rw[h]
  |k u=>simp[Lf.beq]at h
  |e=>simp[Lf.beq]at h
 |e=>cases y<;>simp[Lf.beq]at h;rfl
inductive Lb where
 |f
 |x (b:Nat)
 |o (id:Nat) (p:List (Nat×Nat))
def Lb.id:Lb->Nat
 | .f=>0
 | .x b=>b
 | .o i _=>i
structure Gh where
 ω:Nat->Option Lb
 β:Nat->Nat
 H:Nat->List (Nat×Nat)->Value
 hs:∀i p,∃a n c,H i p=.slice a n c
def qt:Lb->Bool
 | .o i p=>Nat.beq (i%4) 2||(Nat.beq (i%2) 0&& !p.isEmpty)
 |_=>false
def qf(ω:Nat->Option Lb):Nat->Option Lb:=λb=>match ω b with
 |some l=>bif qt l then none else some l
 |none=>none
theorem wN{ω:Nat->Option Lb}{b:Nat}(h:ω b=none):qf ω b=none:=by simp[qf,h]
theorem y_{ω:Nat->Option Lb}{b:Nat}{l:Lb}(h:ω b=some l)(hq:qt l=false):qf ω b=some l:=by simp[qf,h,hq]
theorem Hy{ω:Nat->Option Lb}{b:Nat}{l:Lb}(h:ω b=some l)(hq:qt l=true):qf ω b=none:=by simp[qf,h,hq]
theorem OX{ω:Nat->Option Lb}{b:Nat}(h:qf ω b=none):ω b=none∨∃l,ω b=some l∧qt l=true:=by
 unfold qf at h
 split at h
 ·rename_i l hl
  cases hq:qt l with
  |true=>exact .inr ⟨l,hl,hq⟩
  |false=>simp[hq]at h
 ·rename_i hl;exact .inl hl
theorem sB{ω:Nat->Option Lb}{b:Nat}{l:Lb}(h:ω b=some l)(hq:qt l=false):qf ω b≠none:=by rw[y_ h hq];simp
theorem sC{ω uD:Nat->Option Lb}{b:Nat}(h:qf ω b=none)(hn:ω b=none->uD b=none)(hl:∀l,ω b=some l->qt l=true->uD b=none∨∃l',uD b=some l'∧qt l'=true):qf uD b=none:=by
 rcases OX h with h0|⟨l,h1,h2⟩
 ·exact wN (hn h0)
 ·rcases hl l h1 h2 with h3|⟨l',h3,h4⟩
  ·exact wN h3
  ·exact Hy h3 h4
def Gh.q(G:Gh):Nat->Option Lb:=qf G.ω
theorem Hz{G:Gh}{b:Nat}{l:Lb}(h:G.q b=some l):G.ω b=some l:=by
 unfold Gh.q qf at h
 split at h
 ·rename_i l' hl
  cases hq:qt l' with
  |true=>simp[hq]at h
  |false=>simp[hq]at h;rw[hl,h]
 ·cases h
theorem Gh.uE{G G':Gh}{b:Nat}(h:G'.ω b=G.ω b):G'.q b=G.q b:=by simp only[Gh.q,qf,h]
theorem CL{ρ:List T}{id:Nat}{p:List (Nat×Nat)}(h:p=[]∨id%2=1)(h2:id%4≠2):qt (.o id p)=false:=by
 have e1:Nat.beq (id%4) 2=false:=by
  cases hb:Nat.beq (id%4) 2 with
  |false=>rfl
  |true=>exact absurd (du hb) h2
 rcases h with rfl|h
 ·simp[qt,e1]
 ·have e2:Nat.beq (id%2) 0=false:=by rw[h];rfl
  simp[qt,e1,e2]
theorem CM{id:Nat}(h2:id%4≠2):qt (.o id [])=false:=CL (ρ:=[]) (.inl rfl) h2
theorem sD{i:Nat}{p:List (Nat×Nat)}(hi:i%2=0)(hp:p≠[]):qt (.o i p)=true:=by
 cases p with
 |nil=>exact absurd rfl hp
 |cons x p=>simp[qt,hi]
theorem HA{i:Nat}{p:List (Nat×Nat)}(hi:i%4=2):qt (.o i p)=true:=by simp[qt,hi]
def dr(xs:List (List T))(i j:Nat):Option T:=xs[i]?.bind (·[j]?)
inductive eB (ω:Nat->Option Lb) (w:World):T->Value->Prop
 |c {v:Value} (h:jH v=true):eB ω w (.c v) v
 |nil {a:Option Addr} {cap:Nat}:eB ω w (.l []) (.slice a 0 cap)
 |l {xs:List (List T)} {b off wd cap:Nat} {cv:Nat->Nat->Value} (hw:∀r∈xs,r.length=wd) (hc:xs.length<=cap)
   (hb:ω b=none) (a_:b<w.heap.size)
   (h1:∀i j t,dr xs i j=some t->w.cell? ⟨b,off+(i*wd+j),none⟩=some (cv i j))
   (h2:∀i j t,dr xs i j=some t->eB ω w t (cv i j)):eB ω w (.l xs) (.slice (some ⟨b,off,none⟩) xs.length cap)
inductive eg (G:Gh) (w:World) (id:Nat):Bool->List (Nat×Nat)->T->Prop
 |nil {dp:Bool} {p:List (Nat×Nat)} (hH:G.H id p=.slice none 0 0):eg G w id dp p (.l [])
 |l {dp:Bool} {p:List (Nat×Nat)} {xs:List (List T)} {b wd cap:Nat} {bE:Array Value} {elem:TypeId} {cv:Nat->Nat->Value}
   (hH:G.H id p=.slice (some ⟨b,0,none⟩) xs.length cap) (hc:xs.length<=cap∧(xs=[]->cap=0)) (gj:G.ω b=some (.o id p))
   (hh:w.heap[b]?=some (.cells bE elem (0,0))) (hs:bE.size=cap*wd) (hw:∀r∈xs,r.length=wd)
   (h1:∀i j t,dr xs i j=some t->bE[i*wd+j]?=some (cv i j))
   (hv:∀i j v,dr xs i j=some (.c v)->cv i j=v∧jH v=true)
   (hp:∀i j ys,dr xs i j=some (.l ys)->dp=false->eB G.q w (.l ys) (cv i j))
   (hq:∀i j ys,dr xs i j=some (.l ys)->dp=true->cv i j=G.H id (p++[(i,j)]))
   (ho:∀i j ys,dr xs i j=some (.l ys)->dp=true->eg G w id true (p++[(i,j)]) (.l ys)):eg G w id dp p (.l xs)
def Lf.fq(ρ:List T):Lf->Option T
 | .k v=>bif jH v then some (.c v)else none
 | .a n=>ρ[n]?
 | .e=>some (.l [])
theorem Lf.bG{ρ:List T}{x:Lf}{t:T}(h:x.fq ρ=some t):x.ev ρ=t:=by
 cases x with
 |k v=>simp only[Lf.fq]at h;cases hs:jH v<;>simp[hs]at h;simp[Lf.ev,h]
 |a n=>simp only[Lf.fq]at h;simp[Lf.ev,List.getD,h]
 |e=>simpa[Lf.fq,Lf.ev]using h
def ll(ρ:List T)(x:Lf):Option Nat:=
 match x.fq ρ with
 |some (.c (.int _ n))=>if 0<=n then some n.toNat else none
 |_=>none
def fW(ρ:List T):mq->Option (List (Nat×Nat))
 | []=>some []
 |(x,_,j)::q=>(ll ρ x).bind λi=>(fW ρ q).bind λp=>some ((i,j)::p)
def ki(ρ:List T)(id:Nat)(q:mq):Option (List (Nat×Nat)):=
 match q with
 | []=>some []
 |x::q=>if id%2=1 then fW ρ (x::q)else none
theorem lO{ρ:List T}{id:Nat}:ki ρ id []=some []:=rfl
theorem CN{ρ:List T}{id:Nat}{q:mq}{p:List (Nat×Nat)}(h:ki ρ id q=some p):fW ρ q=some p:=by
 cases q with
 |nil=>exact h
 |cons x q=>
  simp only[ki]at h
  split at h
  ·exact h
  ·cases h
theorem CO{ρ:List T}{id:Nat}{q:mq}{p:List (Nat×Nat)}(h:ki ρ id q=some p):p=[]∨id%2=1:=by
 cases q with
 |nil=>simp only[ki,bc]at h;exact .inl h.symm
 |cons x q=>
  simp only[ki]at h
  split at h
  ·exact .inr (by assumption)
  ·cases h
theorem abP{ρ:List T}{id:Nat}{q:mq}{p:List (Nat×Nat)}(h:fW ρ q=some p)(hi:id%2=1):ki ρ id q=some p:=by
 cases q with
 |nil=>exact h
 |cons x q=>simp only[ki,if_pos hi];exact h
def fH(G:Gh)(w:World)(ρ:List T):Ce->Value->Prop
 | .p x,c=>∃t,x.fq ρ=some t∧eB G.q w t c
 | .o id q,c=>∃p,ki ρ id q=some p∧c=G.H id p
 | .n,c=>c=.slice none 0 0
 | .d,c=>c.oneCell'=true
def aS(G:Gh)(w:World)(ρ:List T):List Ce->List Value->Prop
 | [],[]=>True
 |c::cs,v::vs=>fH G w ρ c v∧aS G w ρ cs vs
 |_,_=>False
def eZ(G:Gh)(w:World)(ρ:List T)(ag:Bool)(cs:List Ce)(c:Value):Prop:=
 match ag with
 |true=>∃vs:List Value,c=.agg vs.toArray∧aS G w ρ cs vs
 |false=>∃e,cs=[e]∧fH G w ρ e c∧∀a,c≠.agg a
def fX(G:Gh)(w:World)(ρ:List T):List (Bool×List Ce)->List Value->Prop
 | [],[]=>True
 |c::cs,v::vs=>eZ G w ρ c.1 c.2 v∧fX G w ρ cs vs
 |_,_=>False
def cz(G:Gh)(w:World)(ρ:List T):SV->Value->Prop
 | .un,_=>True
 | .v ag cs,c=>eZ G w ρ ag cs c
 | .pt b off,c=>c=.pointer (some ⟨G.β b,off,none⟩)
 | .ep id q ix wd off,c=>∃p b n cap i,ki ρ id q=some p∧G.H id p=.slice (some ⟨b,0,none⟩) n cap∧ll ρ ix=some i∧i<n∧
   c=.pointer (some ⟨b,i*wd+off,none⟩)
 | .fp s ix wd off,c=>∃xs i r b base,s.fq ρ=some (.l xs)∧ll ρ ix=some i∧xs[i]?=some r∧c=.pointer (some ⟨b,base+off,none⟩)∧
   (r.length=wd->G.q b=none∧b<w.heap.size∧∀j t,r[j]?=some t->∃u,w.cell? ⟨b,base+j,none⟩=some u∧eB G.q w t u)
 | .tp vs,c=>∃us:List Value,c=.tuple us.toArray∧fX G w ρ vs us
 | .cl f bs,c=>c=.func (.func f) #[] (bs.map λb=>Value.pointer (some ⟨G.β b,0,none⟩)).toArray
 | .ob _ _,_=>False
 | .fz _ _,_=>False
 | .tk _ _,_=>False
 | .fl _,_=>False
 | .fr _,_=>False
def fC(G:Gh)(w:World)(ρ:List T)(b:Nat):SV->Prop
 | .v _ cs=>G.ω (G.β b)=some (.x b)∧∃bE elem,w.heap[G.β b]?=some (.cells bE elem (0,0))∧aS G w ρ cs bE.toList
 | .un=>True
 |_=>False
def nV(w:World)(H:List (Nat×Nat)->Value)(n:Nat)(v:Value)(zs:List (List T)):Prop:=
 ∀b off k c,v=.slice (some ⟨b,off,none⟩) k c->∃wd,(∀r∈zs,r.length=wd)∧∀i j ys,dr zs i j=some (.l ys)->w.cell? ⟨b,off+(i*wd+j),none⟩=some (H [(n+i,j)])
def vE(G:Gh)(w:World)(ρ:List T)(v:Value)(t:T):Pv->Prop
 | .z=>True
 | .w tk x lo=>tk%4=2∧∃F n zs,x.fq ρ=some (.l F)∧ll ρ lo=some n∧t=.l zs∧(∀i r,zs[i]?=some r->F[n+i]?=some r)∧
   nV w (G.H tk) n v zs∧(n=0->∀b off k c,v=.slice (some ⟨b,off,none⟩) k c->off=0)
def cA(G:Gh)(w:World)(ρ:List T)(id:Nat):SV->Prop
 | .ob dp x=>∃t,x.fq ρ=some t∧eg G w id dp [] t
 | .fz pv x=>∃t,x.fq ρ=some t∧eB G.q w t (G.H id [])∧vE G w ρ (G.H id []) t pv
 | .tk x m=>id%4=2∧∃F u,x.fq ρ=some (.l F)∧m.fq ρ=some (.l u)∧u.length=F.length∧
   ∀i r,u[i]?=some r->r≠[]->F[i]?=some r∧∀j ys,r[j]?=some (.l ys)->eg G w id true [(i,j)] (.l ys)
 | .fl x=>id%4=2∧∃t,x.fq ρ=some t∧eg G w id true [] t
 | .fr x=>id%4=0∧∃ys,x.fq ρ=some (.l ys)∧eB G.q w (.l ys) (G.H id [])∧nV w (G.H id) 0 (G.H id []) ys∧
   ∀i j zs,dr ys i j=some (.l zs)->eg G w id true [(i,j)] (.l zs)
 | .un=>True
 |_=>False
structure da (I:Lb->Prop) (N:Nat->Prop) (G:Gh) (w:World) (G':Gh) (w':World):Prop where
 size:w.heap.size<=w'.heap.size
 free:∀b,b<w.heap.size->G.q b=none->G'.q b=none∧w'.heap[b]?=w.heap[b]?
 frs:∀b,b<w.heap.size->G.ω b=none->G'.ω b=none
 own:∀b l,G.ω b=some l->¬I l->G'.ω b=some l∧w'.heap[b]?=w.heap[b]?
 nm:∀i,¬N i->G'.β i=G.β i∧∀p,(p=[]∨i%4≠0∨∀r,¬I (.o i r))->G'.H i p=G.H i p
theorem HB{w w':World}{b:Nat}(h:w'.heap[b]?=w.heap[b]?)(off:Nat):w'.cell? ⟨b,off,none⟩=w.cell? ⟨b,off,none⟩:=by
 simp only[World.cell?,h]
theorem eB.aU{ω uD:Nat->Option Lb}{w w':World}(hs:w.heap.size<=w'.heap.size)
  (hf:∀b,b<w.heap.size->ω b=none->uD b=none∧w'.heap[b]?=w.heap[b]?){t:T}{c:Value}(h:eB ω w t c):eB uD w' t c:=by
 induction h with
 |c h=>exact .c h
 |nil=>exact .nil
 |l hw hc hb a_ h1 h2 ih=>
  obtain⟨ji,hh⟩:=hf _ a_ hb
  exact .l hw hc ji (Nat.lt_of_lt_of_le a_ hs) (λi j t ht=>by rw[HB hh];exact h1 i j t ht) ih
theorem eg.aU{I:Lb->Prop}{N:Nat->Prop}{G G':Gh}{w w':World}(k:da I N G w G' w'){id:Nat}(hi:∀p,¬I (.o id p))(hn:¬N id){dp:Bool}{p:List (Nat×Nat)}{t:T}
  (h:eg G w id dp p t):eg G' w' id dp p t:=by
 have hH:G'.H id=G.H id:=funext λp=>(k.nm id hn).2 p (.inr (.inr hi))
 induction h with
 |nil h=>exact .nil (by rw[hH];exact h)
 |l h1 h2 h3 h4 h5 h6 h7 h8 h9 lP _ ih=>
  obtain⟨ho,hh⟩:=k.own _ _ h3 (hi _)
  exact .l (by rw[hH];exact h1) h2 ho (hh.trans h4) h5 h6 h7 h8 (λi j ys hy hd=>(h9 i j ys hy hd).aU k.size k.free)
   (λi j ys hy hd=>by rw[hH];exact lP i j ys hy hd) ih
def dt:List Ce->List Nat
 | []=>[]
 | .o id _::cs=>id::dt cs
 |_::cs=>dt cs
def qM:List (Bool×List Ce)->List Nat
 | []=>[]
 |v::vs=>dt v.2++qM vs
def cT:SV->List Nat
 | .v _ cs=>dt cs
 | .pt b _=>[b]
 | .ep id _ _ _ _=>[id]
 | .cl _ bs=>bs
 | .tp vs=>qM vs
 | .fz (.w tk _ _) _=>[tk]
 |_=>[]
theorem fH.aU{I:Lb->Prop}{N:Nat->Prop}{G G':Gh}{w w':World}(k:da I N G w G' w'){ρ:List T}{e:Ce}{c:Value}(hn:∀i∈dt [e],¬N i)
  (h:fH G w ρ e c):fH G' w' ρ e c:=by
 cases e with
 |p x=>obtain⟨t,h1,h2⟩:=h;exact⟨t,h1,h2.aU k.size k.free⟩
 |o id q=>obtain⟨p,h1,h2⟩:=h;exact⟨p,h1,by rw[(k.nm id (hn id (by simp[dt]))).2 p ((CO h1).imp_right λh=>.inl (by omega))];exact h2⟩
 |n=>exact h
 |d=>exact h
theorem wO(e:Ce)(cs:List Ce):dt (e::cs)=dt [e]++dt cs:=by
 cases e<;>simp[dt]
theorem aS.aU{I:Lb->Prop}{N:Nat->Prop}{G G':Gh}{w w':World}(k:da I N G w G' w'){ρ:List T}:∀{cs:List Ce} {vs:List Value},(∀i∈dt cs,¬N i)->
  aS G w ρ cs vs->aS G' w' ρ cs vs
 | [],[],_,_=>trivial
 | [],_::_,_,h=>h.elim
 |_::_,[],_,h=>h.elim
 |e::cs,v::vs,hn,h=>by
  rw[wO]at hn
  exact⟨h.1.aU k (λi hi=>hn i (List.mem_append_left _ hi)),aS.aU k (λi hi=>hn i (List.mem_append_right _ hi)) h.2⟩
theorem eZ.aU{I:Lb->Prop}{N:Nat->Prop}{G G':Gh}{w w':World}(k:da I N G w G' w'){ρ:List T}{ag:Bool}{cs:List Ce}{c:Value}(hn:∀i∈dt cs,¬N i)
  (h:eZ G w ρ ag cs c):eZ G' w' ρ ag cs c:=by
 cases ag with
 |true=>obtain⟨vs,h1,h2⟩:=h;exact⟨vs,h1,h2.aU k hn⟩
 |false=>obtain⟨e,rfl,h2,h3⟩:=h;exact⟨e,rfl,h2.aU k hn,h3⟩
theorem fX.aU{I:Lb->Prop}{N:Nat->Prop}{G G':Gh}{w w':World}(k:da I N G w G' w'){ρ:List T}:∀{cs:List (Bool×List Ce)} {vs:List Value},(∀i∈qM cs,¬N i)->
  fX G w ρ cs vs->fX G' w' ρ cs vs
 | [],[],_,_=>trivial
 | [],_::_,_,h=>h.elim
 |_::_,[],_,h=>h.elim
 |e::cs,v::vs,hn,h=>⟨h.1.aU k (λi hi=>hn i (by simp[qM,hi])),fX.aU k (λi hi=>hn i (by simp[qM,hi])) h.2⟩
theorem cz.aU{I:Lb->Prop}{N:Nat->Prop}{G G':Gh}{w w':World}(k:da I N G w G' w'){ρ:List T}{v:SV}{c:Value}(hn:∀i∈cT v,¬N i)
  (h:cz G w ρ v c):cz G' w' ρ v c:=by
 cases v with
 |un=>trivial
 |v ag cs=>exact eZ.aU k hn h
 |pt b off=>exact(by rw[cz,(k.nm b (hn b (by simp[cT]))).1];exact h)
 |ep id q ix wd off=>
  obtain⟨p,b,n,cap,i,h1,h2,h3⟩:=h
  exact⟨p,b,n,cap,i,h1,by rw[(k.nm id (hn id (by simp[cT]))).2 p ((CO h1).imp_right λh=>.inl (by omega))];exact h2,h3⟩
 |fp s ix wd off=>
  obtain⟨xs,i,r,b,base,h1,h2,h3,h4,h5⟩:=h
  refine⟨xs,i,r,b,base,h1,h2,h3,h4,λhr=>?_⟩
  obtain⟨h6,h7,h8⟩:=h5 hr
  obtain⟨h9,lP⟩:=k.free _ h7 h6
  refine⟨h9,Nat.lt_of_lt_of_le h7 k.size,λj t ht=>?_⟩
  obtain⟨u,hu,hd⟩:=h8 j t ht
  exact⟨u,by rw[HB lP];exact hu,hd.aU k.size k.free⟩
 |tp vs=>obtain⟨us,h1,h2⟩:=h;exact⟨us,h1,h2.aU k hn⟩
 |cl f bs=>
  simp only[cz]at h⊢
  rw[h]
  congr 2
  exact List.map_congr_left λb hb=>by rw[(k.nm b (hn b (by simpa[cT]using hb))).1]
 |ob dp x=>exact h
 |fz pv x=>exact h
 |tk x m=>exact h
 |fl x=>exact h
 |fr x=>exact h
theorem fC.aU{I:Lb->Prop}{N:Nat->Prop}{G G':Gh}{w w':World}(k:da I N G w G' w'){ρ:List T}{b:Nat}{v:SV}(hi:¬I (.x b))(hb:¬N b)(hn:∀i∈cT v,¬N i)
  (h:fC G w ρ b v):fC G' w' ρ b v:=by
 cases v with
 |v ag cs=>
  obtain⟨h1,bE,elem,h2,h3⟩:=h
  obtain⟨h4,h5⟩:=k.own _ _ h1 hi
  have CP:=(k.nm b hb).1
  exact⟨by rw[CP];exact h4,bE,elem,by rw[CP];exact h5.trans h2,h3.aU k hn⟩
 |un=>trivial
 |_=>exact h
theorem nV.aU{ω:Nat->Option Lb}{w w':World}{H H':List (Nat×Nat)->Value}{n:Nat}{v:Value}{zs:List (List T)}(h:nV w H n v zs)(hd:eB ω w (.l zs) v)
  (hf:∀b,b<w.heap.size->ω b=none->w'.heap[b]?=w.heap[b]?)(hH:∀p,p≠[]->H' p=H p):nV w' H' n v zs:=by
 intro b off k c hv
 obtain⟨wd,h1,h2⟩:=h b off k c hv
 refine⟨wd,h1,λi j ys bq=>?_⟩
 rw[hH _ (by simp),<-h2 i j ys bq]
 subst hv
 generalize hv:Value.slice (some (⟨b,off,none⟩:Addr)) k c=v at hd
 cases hd with
 |nil=>simp[dr]at bq
 |l g1 g2 g3 g4 g5 g6=>cases hv;exact HB (hf _ g4 g3) _
theorem vE.aU{I:Lb->Prop}{N:Nat->Prop}{G G':Gh}{w w':World}(k:da I N G w G' w'){ρ:List T}{pv:Pv}{v:Value}{t:T}(hd:eB G.q w t v)(hn:∀x i,i∈cT (.fz pv x)->¬N i)
  (h:vE G w ρ v t pv):vE G' w' ρ v t pv:=by
 cases pv with
 |z=>trivial
 |w tk x lo=>
  obtain⟨h0,F,n,zs,h1,h2,rfl,h3,h4,h5⟩:=h
  refine⟨h0,F,n,zs,h1,h2,rfl,h3,h4.aU hd (λb hb h=>(k.free b hb h).2) λp _=>?_,h5⟩
  exact(k.nm tk (hn .e tk (by simp[cT]))).2 p (.inr (.inl (by omega)))
theorem cA.aU{I:Lb->Prop}{N:Nat->Prop}{G G':Gh}{w w':World}(k:da I N G w G' w'){ρ:List T}{id:Nat}{v:SV}(hi:∀p,¬I (.o id p))(hb:¬N id)(hn:∀i∈cT v,¬N i)
  (h:cA G w ρ id v):cA G' w' ρ id v:=by
 cases v with
 |ob dp x=>obtain⟨t,h1,h2⟩:=h;exact⟨t,h1,h2.aU k hi hb⟩
 |fz pv x=>
  obtain⟨t,h1,h2,h3⟩:=h
  have e:=(k.nm id hb).2 [] (.inl rfl)
  exact⟨t,h1,by rw[e];exact h2.aU k.size k.free,by rw[e];exact h3.aU k h2 (λ_ i hi=>hn i (by cases pv<;>exact hi))⟩
 |tk x m=>
  obtain⟨h0,F,u,h1,h2,h3,h4⟩:=h
  exact⟨h0,F,u,h1,h2,h3,λi r hr dj=>⟨(h4 i r hr dj).1,λj ys hy=>((h4 i r hr dj).2 j ys hy).aU k hi hb⟩⟩
 |fl x=>obtain⟨h0,t,h1,h2⟩:=h;exact⟨h0,t,h1,h2.aU k hi hb⟩
 |fr x=>
  obtain⟨h0,ys,h1,h2,h3,h4⟩:=h
  have e:=λp=>(k.nm id hb).2 p (.inr (.inr hi))
  refine⟨h0,ys,h1,by rw[e];exact h2.aU k.size k.free,by rw[e];exact h3.aU h2 (λb hb h=>(k.free b hb h).2) λp _=>e p,λi j zs hz=>(h4 i j zs hz).aU k hi hb⟩
 |un=>trivial
 |_=>exact h
theorem da.refl(G:Gh)(w:World):da (λ_=>False) (λ_=>False) G w G w:=
 ⟨Nat.le_refl _,λ_ _ h=>⟨h,rfl⟩,λ_ _ h=>h,λ_ _ h _=>⟨h,rfl⟩,λ_ _=>⟨rfl,λ_ _=>rfl⟩⟩
theorem da.mono{I I':Lb->Prop}{N N':Nat->Prop}{G G':Gh}{w w':World}(k:da I N G w G' w')(hI:∀l,I l->I' l)(hN:∀i,N i->N' i):da I' N' G w G' w':=
 ⟨k.size,k.free,k.frs,λb l hb hl=>k.own b l hb λh=>hl (hI l h),λi hi=>⟨(k.nm i λh=>hi (hN i h)).1,λp hp=>(k.nm i λh=>hi (hN i h)).2 p (hp.imp_right λh=>h.imp_right λh r hr=>h r (hI _ hr))⟩⟩
theorem da.trans{I:Lb->Prop}{N:Nat->Prop}{G G' G'':Gh}{w w' w'':World}(k:da I N G w G' w')(k':da I N G' w' G'' w''):da I N G w G'' w'':=by
 refine⟨Nat.le_trans k.size k'.size,λb hb h0=>?_,λb hb h0=>k'.frs b (Nat.lt_of_lt_of_le hb k.size) (k.frs b hb h0),λb l hb hl=>?_,λi hi=>?_⟩
 ·obtain⟨h1,h2⟩:=k.free b hb h0
  obtain⟨h3,h4⟩:=k'.free b (Nat.lt_of_lt_of_le hb k.size) h1
  exact⟨h3,h4.trans h2⟩
 ·obtain⟨h1,h2⟩:=k.own b l hb hl
  obtain⟨h3,h4⟩:=k'.own b l h1 hl
  exact⟨h3,h4.trans h2⟩
 ·exact⟨(k'.nm i hi).1.trans (k.nm i hi).1,λp hp=>((k'.nm i hi).2 p hp).trans ((k.nm i hi).2 p hp)⟩
theorem St.sE(s:St)(r:bf):s.get r=(s.look r).getD .un:=by
 induction s with
 |nil=>rfl
 |cons x s ih=>
  obtain⟨r',v⟩:=x
  cases h:r'.beq r<;>simp[St.get,St.look,h,ih]
theorem St.aM(s W:St)(r:bf):(s.eY W).get r=(W.look r).getD (s.get r):=by
 induction W with
 |nil=>rfl
 |cons x W ih=>
  obtain⟨r',v⟩:=x
  cases h:r'.beq r with
  |true=>
   have:=bf.beq_iff.1 h
   subst this
   simp[St.eY,St.bN,St.look,h]
  |false=>
   have dj:r'≠r:=λe=>by simp[bf.beq_iff.2 e]at h
   simp[St.eY,St.dZ _ _ dj,St.look,h,ih]
theorem St.be(s:St)(r:bf)(v:SV):(s.set r v).look r=some v:=by
 induction s with
 |nil=>simp[St.set,St.look,(bf.beq_iff).2 rfl]
 |cons x s ih=>
  obtain⟨r',v'⟩:=x
  cases h:r'.beq r with
  |true=>simp[St.set,St.look,h,(bf.beq_iff).2 rfl]
  |false=>simp[St.set,St.look,h,ih]
theorem St.cg(s:St){r r':bf}(v:SV)(h:r≠r'):(s.set r v).look r'=s.look r':=by
 have hb:r.beq r'=false:=by
  cases hh:r.beq r' with
  |false=>rfl
  |true=>exact absurd (bf.beq_iff.1 hh) h
 induction s with
 |nil=>simp[St.set,St.look,hb]
 |cons x s ih=>
  obtain⟨r2,v2⟩:=x
  cases h2:r2.beq r with
  |true=>
   have:=bf.beq_iff.1 h2
   subst this
   simp[St.set,St.look,h2,hb]
  |false=>
   cases h3:r2.beq r' with
   |true=>simp[St.set,St.look,h2,h3]
   |false=>simp[St.set,St.look,h2,h3,ih]
theorem St.za(s:St)(R:List bf){r:bf}(h:r∈R):(s.only R).get r=s.get r:=by
 induction R with
 |nil=>cases h
 |cons x R ih=>
  simp only[St.only,St.get]
  cases hb:x.beq r with
  |true=>have:=bf.beq_iff.1 hb;subst this;rfl
  |false=>
   refine ih ?_
   cases h with
   |head=>simp[bf.beq_iff.2 rfl]at hb
   |tail _ h=>exact h
theorem St.qN(s:St)(R:List bf){r:bf}(h:r∉R):(s.only R).get r=.un:=by
 induction R with
 |nil=>rfl
 |cons x R ih=>
  simp only[St.only,St.get]
  have hb:x.beq r=false:=by
   cases hb:x.beq r with
   |false=>rfl
   |true=>exact absurd (bf.beq_iff.1 hb▸List.mem_cons_self) h
  rw[hb]
  exact ih λhm=>h (List.mem_cons_of_mem _ hm)
structure eu where
 w0:World
 mY:Nat->Option Lb
 bt:Nat->Option Nat
def OY:List (Nat×List Value):=[]
def CQ(ω:Nat->Option Lb)(w:World):Prop:=∀x∈OY,x.1<w.heap.size∧ω x.1=none∧∃e z,w.heap[x.1]?=some (.cells x.2.toArray e z)
structure uF (B:eu) (G:Gh) (w:World):Prop where
 os:w.os=B.w0.os
 tape:w.tape=B.w0.tape
 output:w.output=B.w0.output
 size:B.w0.heap.size<=w.heap.size
 free:∀b,b<B.w0.heap.size->B.mY b=none->G.ω b=none∧w.heap[b]?=B.w0.heap[b]?
 Bz:∀b,B.mY b=some .f->G.ω b=some .f∧w.heap[b]?=B.w0.heap[b]?
 gl:CQ B.mY B.w0
theorem uF.abR{B:eu}{G:Gh}{w:World}(h:uF B G w):CQ G.ω w:=λx hx=>by
 obtain⟨h1,h2,e,z,h3⟩:=h.gl x hx
 obtain⟨h4,h5⟩:=h.free x.1 h1 h2
 exact⟨Nat.lt_of_lt_of_le h1 h.size,h4,e,z,h5.trans h3⟩
def nW(up:Nat->Nat->Value)(d:Nat)(a:Act)(e n:Nat):Value:=if e=d then a.tmps.getD n undef else up e n
structure Rel (M:Nat->Prop) (B:eu) (d:Nat) (up:Nat->Nat->Value) (s:St) (ρ:List T) (G:Gh) (a:Act) (w:World):Prop where
 tm:∀e n,e<=d->cz G w ρ (s.get (.t e n)) (nW up d a e n)
 bx:∀b,fC G w ρ b (s.get (.x b))
 ob:∀i,cA G w ρ i (s.get (.o i))
 fD:∀r,∀i∈cT (s.get r),M i
 key:∀i,(s.get (.x i)≠.un∨s.get (.o i)≠.un)->M i
 gx:∀b l,G.ω b=some l->M l.id∧b<w.heap.size
 dn:a.defers=[]
 base:uF B G w
 bt:∀i b,B.bt i=some b->M i∧G.β i=b
theorem HC{up:Nat->Nat->Value}{d:Nat}{a:Act}{dst:Option Nat}{v:Value}{e n:Nat}(h:¬(e=d∧dst=some n)):
  nW up d (a.put dst v) e n=nW up d a e n:=by
 unfold nW
 split
 ·rename_i he
  cases dst with
  |none=>rfl
  |some m=>
   have dj:m≠n:=λhm=>h ⟨he,by rw[hm]⟩
   simp[Act.put,Array.getD_eq_getD_getElem?,Array.getElem?_setIfInBounds_ne dj]
 ·rfl
theorem Nr{up:Nat->Nat->Value}{d:Nat}{a:Act}{v:Value}{n:Nat}(h:n<a.tmps.size):nW up d (a.put (some n) v) d n=v:=by
 simp[nW,Act.put,Array.getD_eq_getD_getElem?,h]
theorem Rel.mono{M M':Nat->Prop}{B:eu}{d:Nat}{up:Nat->Nat->Value}{s:St}{ρ:List T}{G:Gh}{a:Act}{w:World}(h:Rel M B d up s ρ G a w)
  (hM:∀i,M i->M' i):Rel M' B d up s ρ G a w:=
 ⟨h.tm,h.bx,h.ob,λr i hi=>hM i (h.fD r i hi),λi hi=>hM i (h.key i hi),λb l hl=>⟨hM _ (h.gx b l hl).1,(h.gx b l hl).2⟩,h.dn,h.base,λi b hb=>⟨hM i (h.bt i b hb).1,(h.bt i b hb).2⟩⟩
def ng(W:St):Lb->Prop
 | .f=>False
 | .x b=>W.look (.x b)≠none
 | .o i _=>W.look (.o i)≠none
theorem Rel.glue{M M':Nat->Prop}{B:eu}{d:Nat}{up:Nat->Nat->Value}{s s':St}{ρ:List T}{G:Gh}{a:Act}{w:World}(h:Rel M B d up s ρ G a w)
  {N:Nat->Prop}{G':Gh}{w':World}{W:St}(k:da (ng W) N G w G' w'){dst:Option Nat}{v:Value}
  (hN:∀i,N i->¬M i)(hM:∀i,M i->M' i)
  (hd:∀n,dst=some n->W.look (.t d n)≠none)
  (hr:Rel M' B d up (s'.eY W) ρ G' (a.put dst v) w'):Rel M' B d up (s.eY W) ρ G' (a.put dst v) w':=by
 have hw:∀r u,W.look r=some u->(s'.eY W).get r=u:=λr u hu=>by rw[St.aM,hu];rfl
 refine⟨?_,?_,?_,?_,?_,hr.gx,hr.dn,hr.base,hr.bt⟩
 ·intro e n he
  rw[St.aM]
  cases hl:W.look (.t e n)with
  |some u=>have:=hr.tm e n he;rw[hw _ _ hl]at this;exact this
  |none=>
   rw[HC λ⟨h1,h2⟩=>hd n h2 (h1▸hl)]
   exact(h.tm e n he).aU k λi hi hn=>hN i hn (h.fD _ i hi)
 ·intro b
  rw[St.aM]
  cases hl:W.look (.x b)with
  |some u=>have:=hr.bx b;rw[hw _ _ hl]at this;exact this
  |none=>
   by_cases hu:s.get (.x b)=.un
   ·simp only[Option.getD_none,hu];trivial
   ·exact(h.bx b).aU k (λhk=>hk hl) (λhn=>hN b hn (h.key b (.inl hu))) λi hi hn=>hN i hn (h.fD _ i hi)
 ·intro i
  rw[St.aM]
  cases hl:W.look (.o i)with
  |some u=>have:=hr.ob i;rw[hw _ _ hl]at this;exact this
  |none=>
   by_cases hu:s.get (.o i)=.un
   ·simp only[Option.getD_none,hu];trivial
   ·exact(h.ob i).aU k (λp hk=>hk hl) (λhn=>hN i hn (h.key i (.inr hu))) λj hj hn=>hN j hn (h.fD _ j hj)
 ·intro r i hi
  rw[St.aM]at hi
  cases hl:W.look r with
  |some u=>rw[hl]at hi;refine hr.fD r i ?_;rw[hw _ _ hl];exact hi
  |none=>rw[hl]at hi;exact hM i (h.fD r i hi)
 ·intro i hi
  rw[St.aM,St.aM]at hi
  rcases hi with hi|hi
  ·cases hl:W.look (.x i)with
   |some u=>rw[hl]at hi;exact hr.key i (.inl (by rw[hw _ _ hl];exact hi))
   |none=>rw[hl]at hi;exact hM i (h.key i (.inl hi))
  ·cases hl:W.look (.o i)with
   |some u=>rw[hl]at hi;exact hr.key i (.inr (by rw[hw _ _ hl];exact hi))
   |none=>rw[hl]at hi;exact hM i (h.key i (.inr hi))
theorem Rel.CR{M:Nat->Prop}{B:eu}{d:Nat}{up:Nat->Nat->Value}{s:St}{ρ:List T}{G:Gh}{a:Act}{w:World}(h:Rel M B d up s ρ G a w)
  {n:Nat}{x:SV}{v:Value}(hn:n<a.tmps.size)(hr:cz G w ρ x v)(hm:∀i∈cT x,M i):
  Rel M B d up (s.set (.t d n) x) ρ G (a.put (some n) v) w:=by
 have hg:∀r,r≠.t d n->(s.set (.t d n) x).get r=s.get r:=λr hr=>St.dZ _ _ (Ne.symm hr)
 refine⟨λe m he=>?_,λb=>?_,λi=>?_,λr i hi=>?_,λi hi=>?_,h.gx,h.dn,h.base,h.bt⟩
 ·by_cases jc:(bf.t e m)=.t d n
  ·cases jc;rw[St.bN,Nr hn];exact hr
  ·rw[hg _ jc,HC λ⟨h1,h2⟩=>jc (by cases h1;cases h2;rfl)];exact h.tm e m he
 ·rw[hg _ (by simp)];exact h.bx b
 ·rw[hg _ (by simp)];exact h.ob i
 ·by_cases jc:r=.t d n
  ·subst jc;rw[St.bN]at hi;exact hm i hi
  ·rw[hg _ jc]at hi;exact h.fD r i hi
 ·rw[hg _ (by simp),hg _ (by simp)]at hi;exact h.key i hi
def bm(S:Nat->af)(ρ:List T):Nat->List Ch->Prop
 |_,[]=>True
 |e,.pr p xs::is=>∃n t,e=n+1∧p.ev (xs.map (Lf.ev ρ))=some t∧ρ[n]?=some t∧bm S ρ n is
 |e,.cl g xs m::is=>∃n ts,e=n+m∧S g (xs.map (Lf.ev ρ))=some ts∧(∀i,i<m->ρ[n+i]?=some (ts.getD i T.cC))∧bm S ρ n is
def Wk.bm(S:Nat->af)(ρ:List T)(k:Wk):Prop:=Go.Proofs.YtjimmglpkndemaaGreatC.bm S ρ k.ct.a k.is
structure Wk.eO (k k':Wk):Prop where
 r:k'.r=k.r
 w:k'.w=k.w
 i:k'.ct.i=k.ct.i
theorem Wk.eO.refl(k:Wk):k.eO k:=⟨rfl,rfl,rfl⟩
theorem Wk.eO.trans{a b c:Wk}(h:a.eO b)(h':b.eO c):a.eO c:=⟨h'.r.trans h.r,h'.w.trans h.w,h'.i.trans h.i⟩
theorem Wk.eO.get{k k':Wk}(h:k.eO k')(r:bf):k'.get r=k.get r:=by simp[Wk.get,h.r,h.w]
section
variable {S:Nat->af} {ρ:List T}
theorem Wk.bB(k:Wk)(p:Prim)(xs:List Lf):k.eO (k.em p xs).1:=⟨rfl,rfl,rfl⟩
theorem Wk.bK{k:Wk}{p:Prim}{xs:List Lf}(h:(k.em p xs).1.bm S ρ):
  k.bm S ρ∧∃t,p.ev (xs.map (Lf.ev ρ))=some t∧(k.em p xs).2.fq ρ=some t:=by
 obtain⟨n,t,h1,h2,h3,h4⟩:=h
 have:n=k.ct.a:=by simp[Wk.em]at h1;omega
 subst this
 exact⟨h4,t,h2,h3⟩
def gW:List (Nat×Nat)->T->Option T
 | [],t=>some t
 |(i,j)::p,.l xs=>(dr xs i j).bind (gW p)
 |_,_=>none
theorem Ns{x:Lf}{i:Nat}(h:ll ρ x=some i):∃k,(x.ev ρ)=.c (.int k i):=by
 unfold ll at h
 split at h
 ·rename_i k n hx
  split at h
  ·rename_i h0
   cases h
   exact⟨k,by rw[Lf.bG hx];congr 2;exact(Int.toNat_of_nonneg h0).symm⟩
  ·cases h
 ·cases h
theorem zb{xs:List (List T)}{k:IntKind}{i:Nat}:tM (.l xs) (.c (.int k (i:Int)))=xs[i]?:=by
 simp[tM,T.rows,T.int]
theorem CS{x ix:Lf}{w j i:Nat}{xs:List (List T)}{t:T}(hx:x.fq ρ=some (.l xs))(hi:ll ρ ix=some i)
  (h:Prim.ev (.bD w j) [x.ev ρ,ix.ev ρ]=some t):∃ys,t=.l ys∧dr xs i j=some (.l ys)∧∃r,xs[i]?=some r∧r.length=w:=by
 obtain⟨k,hk⟩:=Ns hi
 rw[Lf.bG hx,hk]at h
 simp only[Prim.ev,zb]at h
 cases hr:xs[i]? with
 |none=>simp[hr]at h
 |some r=>
  simp only[hr,Option.bind_some]at h
  split at h
  ·rename_i hl
   cases hj:r[j]? with
   |none=>simp[hj]at h
   |some u=>
    cases u with
    |c v=>simp[hj,T.rows]at h
    |l ys=>
     simp[hj,T.rows]at h
     exact⟨ys,h.symm,by simp[dr,hr,hj],r,rfl,hl⟩
  ·cases h
theorem Wk.eM:∀(q:mq) (k:Wk) (x:Lf),k.eO (k.down x q).1
 | [],k,x=>.refl k
 |(ix,w,j)::q,k,x=>by
  simp only[Wk.down]
  exact(Wk.bB k _ _).trans (Wk.eM q _ _)
theorem Wk.kM:∀(q:mq) (k:Wk) (x:Lf),(k.down x q).1.bm S ρ->k.bm S ρ
 | [],_,_,h=>h
 |(ix,w,j)::q,k,x,h=>(Wk.bK (Wk.kM q _ _ h)).1
theorem Wk.gy:∀(q:mq) (k:Wk) (x:Lf) {t:T} {p:List (Nat×Nat)},(k.down x q).1.bm S ρ->x.fq ρ=some t->fW ρ q=some p->
  (q=[]∨∃xs,t=.l xs)->∃u,gW p t=some u∧(k.down x q).2.fq ρ=some u∧(q=[]∨∃ys,u=.l ys)
 | [],k,x,t,p,h,hx,hp,_=>by
  simp only[fW]at hp
  cases hp
  exact⟨t,rfl,hx,.inl rfl⟩
 |(ix,w,j)::q,k,x,t,p,h,hx,hp,ht=>by
  simp only[Wk.down]at h⊢
  obtain⟨xs,rfl⟩:=ht.resolve_left (by simp)
  simp only[fW]at hp
  cases hi:ll ρ ix with
  |none=>simp[hi]at hp
  |some i=>
   cases hq:fW ρ q with
   |none=>simp[hi,hq]at hp
   |some p'=>
    simp[hi,hq]at hp
    subst hp
    obtain⟨_,u,hu,huv⟩:=Wk.bK (Wk.kM q _ _ h)
    obtain⟨ys,rfl,bq,_⟩:=CS hx hi hu
    obtain⟨v,hv,rM,hl⟩:=Wk.gy q _ _ h huv hq (.inr ⟨ys,rfl⟩)
    refine⟨v,by simp[gW,bq,hv],rM,.inr ?_⟩
    rcases hl with rfl|hl
    ·simp only[fW]at hq
     cases hq
     simp[gW]at hv
     exact⟨ys,hv.symm⟩
    ·exact hl
def er(ω:Nat->Option Lb):Nat->Option Lb:=λb=>match ω b with
 |some (.x i)=>some (.x i)
 |some .f=>some .f
 |_=>none
theorem abT{ω:Nat->Option Lb}{b:Nat}(h:ω b=none):er ω b=none:=by simp[er,h]
theorem OZ{G:Gh}{b:Nat}(h:G.q b=none):er G.ω b=none:=by
 rcases OX h with h0|⟨l,h1,h2⟩
 ·exact abT h0
 ·cases l with
  |o i p=>simp[er,h1]
  |_=>simp[qt]at h2
theorem eB.er{G:Gh}{w:World}{t:T}{c:Value}(h:eB G.q w t c):eB (er G.ω) w t c:=
 by
 induction h with
 |c h=>exact .c h
 |nil=>exact .nil
 |l hw hc hb a_ h1 h2 ih=>exact .l hw hc (OZ hb) a_ h1 ih
theorem uG{w:World}{b:Nat}{bE:Array Value}{elem:TypeId}{fz:Nat×Nat}(h:w.heap[b]?=some (.cells bE elem fz))(off:Nat):
  w.cell? ⟨b,off,none⟩=bE[off]?:=by
 simp[World.cell?,h]
theorem F0{w:World}{b:Nat}{o:Obj}(h:w.heap[b]?=some o):b<w.heap.size:=(Array.getElem?_eq_some_iff.1 h).1
theorem rO{xs:List (List T)}{i j:Nat}{t:T}(h:dr xs i j=some t):∃r,xs[i]?=some r∧r∈xs∧r[j]?=some t∧i<xs.length∧j<r.length:=by
 unfold dr at h
 cases hr:xs[i]? with
 |none=>simp[hr]at h
 |some r=>
  simp[hr]at h
  exact⟨r,rfl,List.mem_of_getElem? hr,h,(List.getElem?_eq_some_iff.1 hr).1,(List.getElem?_eq_some_iff.1 h).1⟩
theorem eg.den{G:Gh}{w:World}{id:Nat}{dp:Bool}{p:List (Nat×Nat)}{t:T}(h:eg G w id dp p t):eB (er G.ω) w t (G.H id p):=by
 induction h with
 |nil h=>rw[h];exact .nil
 | @l dp p xs b wd cap bE elem cv h1 h2 h3 h4 h5 h6 h7 h8 h9 lP _ ih=>
  rw[h1]
  refine .l (cv:=cv) h6 h2.1 (by simp[er,h3]) (F0 h4) (λi j t ht=>?_) λi j t ht=>?_
  ·rw[uG h4,Nat.zero_add];exact h7 i j t ht
  ·cases t with
   |c v=>obtain⟨hv,hs⟩:=h8 i j v ht;rw[hv];exact .c hs
   |l ys=>
    cases hd:dp with
    |false=>exact(h9 i j ys ht hd).er
    |true=>rw[lP i j ys ht hd];exact ih i j ys ht hd
theorem eg.O0{G:Gh}{w:World}{id:Nat}{dp:Bool}{p:List (Nat×Nat)}{t:T}(h:eg G w id dp p t)(hi:id%4=2∨(id%2=0∧p≠[]))(fA:dp=true):eB G.q w t (G.H id p):=by
 induction h with
 |nil h=>rw[h];exact .nil
 | @l dp p xs b wd cap bE elem cv h1 h2 h3 h4 h5 h6 h7 h8 h9 lP pK ih=>
  rw[h1]
  refine .l (cv:=cv) h6 h2.1 (Hy h3 (hi.elim HA λh=>sD h.1 h.2)) (F0 h4) (λi j t ht=>?_) λi j t ht=>?_
  ·rw[uG h4,Nat.zero_add];exact h7 i j t ht
  ·cases t with
   |c v=>obtain⟨hv,hs⟩:=h8 i j v ht;rw[hv];exact .c hs
   |l ys=>rw[lP i j ys ht fA];exact ih i j ys ht fA (hi.imp_right λh=>⟨h.1,by simp⟩) rfl
theorem eg.bD{G:Gh}{w:World}{id:Nat}:∀(q:List (Nat×Nat)) {p:List (Nat×Nat)} {t u:T},eg G w id true p t->gW q t=some u->(∃ys,u=.l ys)->
  eg G w id true (p++q) u
 | [],p,t,u,h,hd,_=>by simp only[gW]at hd;cases hd;simpa using h
 |(i,j)::q,p,t,u,h,hd,hu=>by
  cases h with
  |nil=>simp[gW,dr]at hd
  | @l _ _ xs b wd cap bE elem cv h1 h2 h3 h4 h5 h6 h7 h8 h9 lP pK=>
   simp only[gW]at hd
   cases ha:dr xs i j with
   |none=>simp[ha]at hd
   |some v=>
    simp only[ha,Option.bind_some]at hd
    cases v with
    |c v=>
     cases q with
     |nil=>simp[gW]at hd;obtain⟨ys,rfl⟩:=hu;cases hd
     |cons a q=>simp[gW]at hd
    |l ys=>
     have:=eg.bD q (pK i j ys ha rfl) hd hu
     simpa using this
theorem Wk.dF{k k':Wk}{c:Ce}{x:Lf}(h:k.val c=some (k',x)):k.eO k':=by
 cases c with
 |p y=>simp[Wk.val]at h;obtain⟨rfl,_⟩:=h;exact .refl _
 |n=>simp[Wk.val]at h;obtain⟨rfl,_⟩:=h;exact .refl _
 |d=>simp[Wk.val]at h
 |o id q=>
  simp only[Wk.val]at h
  split at h
  ·simp only[bc]at h
   have e1:=congrArg Prod.fst h
   simp only at e1
   subst e1
   exact Wk.eM q k _
  ·split at h
   ·simp at h;obtain⟨rfl,_⟩:=h;exact .refl _
   ·cases h
  ·split at h
   ·simp at h;obtain⟨rfl,_⟩:=h;exact .refl _
   ·cases h
  ·split at h
   ·simp at h;obtain⟨rfl,_⟩:=h;exact .refl _
   ·cases h
  ·cases h
theorem Wk.lm{k k':Wk}{c:Ce}{x:Lf}(h:k.val c=some (k',x))(hd:k'.bm S ρ):k.bm S ρ:=by
 cases c with
 |p y=>simp[Wk.val]at h;obtain⟨rfl,_⟩:=h;exact hd
 |n=>simp[Wk.val]at h;obtain⟨rfl,_⟩:=h;exact hd
 |d=>simp[Wk.val]at h
 |o id q=>
  simp only[Wk.val]at h
  split at h
  ·simp only[bc]at h
   have e1:=congrArg Prod.fst h
   simp only at e1
   subst e1
   exact Wk.kM q _ _ hd
  ·split at h
   ·simp at h;obtain⟨rfl,_⟩:=h;exact hd
   ·cases h
  ·split at h
   ·simp at h;obtain⟨rfl,_⟩:=h;exact hd
   ·cases h
  ·split at h
   ·simp at h;obtain⟨rfl,_⟩:=h;exact hd
   ·cases h
  ·cases h
theorem Wk.kN{k k':Wk}{c:Ce}{x:Lf}{G:Gh}{w:World}{v:Value}(h:k.val c=some (k',x))(hd:k'.bm S ρ)
  (hr:fH G w ρ c v)(ho:∀id,id∈dt [c]->cA G w ρ id (k.get (.o id))):∃t,x.fq ρ=some t∧eB (er G.ω) w t v:=by
 cases c with
 |p y=>simp[Wk.val]at h;obtain⟨_,rfl⟩:=h;obtain⟨t,h1,h2⟩:=hr;exact⟨t,h1,h2.er⟩
 |n=>simp[Wk.val]at h;obtain⟨_,rfl⟩:=h;cases hr;exact⟨_,rfl,.nil⟩
 |d=>simp[Wk.val]at h
 |o id q=>
  have dJ:=ho id (by simp[dt])
  obtain⟨p,hp,rfl⟩:=hr
  simp only[Wk.val]at h
  split at h
  ·rename_i y hk
   simp only[hk,cA]at dJ
   obtain⟨t,ht,bu⟩:=dJ
   simp only[bc]at h
   have e1:=congrArg Prod.fst h
   have e2:=congrArg Prod.snd h
   simp only at e1 e2
   subst e1 e2
   have hl:∃ys,t=.l ys:=by cases bu<;>exact⟨_,rfl⟩
   obtain⟨u,hu,hxu,jU⟩:=Wk.gy q k y hd ht (CN hp) (.inr hl)
   refine⟨u,hxu,?_⟩
   have HD:∃ys,u=.l ys:=by
    rcases jU with rfl|h'
    ·simp only[lO]at hp;cases hp;simp[gW]at hu;subst hu;exact hl
    ·exact h'
   have:=(eg.bD p bu hu HD).den
   simpa using this
  ·rename_i y hk
   split at h
   ·simp at h
    obtain⟨_,rfl⟩:=h
    simp only[hk,cA]at dJ
    obtain⟨t,ht,bu⟩:=dJ
    simp only[lO]at hp;cases hp
    exact⟨t,ht,bu.den⟩
   ·cases h
  ·rename_i y hk
   split at h
   ·simp at h
    obtain⟨_,rfl⟩:=h
    simp only[hk,cA]at dJ
    obtain⟨t,ht,bu,_⟩:=dJ
    simp only[lO]at hp;cases hp
    exact⟨t,ht,bu.er⟩
   ·cases h
  ·rename_i y hk
   split at h
   ·simp at h
    obtain⟨_,rfl⟩:=h
    simp only[hk,cA]at dJ
    obtain⟨_,t,ht,bu⟩:=dJ
    simp only[lO]at hp;cases hp
    exact⟨t,ht,bu.den⟩
   ·cases h
  ·cases h
end
section
variable {M:Nat->Prop} {B:eu} {d:Nat} {up:Nat->Nat->Value} {s:St} {ρ:List T} {G:Gh} {a:Act} {w:World}
theorem Rel.forget(h:Rel M B d up s ρ G a w){s':St}(hs:∀r,s'.get r=s.get r∨s'.get r=.un):Rel M B d up s' ρ G a w:=by
 refine⟨λe n he=>?_,λb=>?_,λi=>?_,λr i hi=>?_,λi hi=>?_,h.gx,h.dn,h.base,h.bt⟩
 ·rcases hs (.t e n)with hr|hr
  ·rw[hr];exact h.tm e n he
  ·rw[hr];trivial
 ·rcases hs (.x b)with hr|hr
  ·rw[hr];exact h.bx b
  ·rw[hr];trivial
 ·rcases hs (.o i)with hr|hr
  ·rw[hr];exact h.ob i
  ·rw[hr];trivial
 ·rcases hs r with hr|hr
  ·rw[hr]at hi;exact h.fD r i hi
  ·rw[hr]at hi;simp[cT]at hi
 ·refine h.key i ?_
  rcases hi with hi|hi
  ·rcases hs (.x i)with hr|hr
   ·exact .inl (hr▸hi)
   ·exact absurd hr hi
  ·rcases hs (.o i)with hr|hr
   ·exact .inr (hr▸hi)
   ·exact absurd hr hi
theorem Rel.congr(h:Rel M B d up s ρ G a w){s':St}(hs:∀r,s'.get r=s.get r):Rel M B d up s' ρ G a w:=h.forget λr=>.inl (hs r)
def Gh.free(G:Gh)(id:Nat)(all:Bool):Gh:=
 {G with ω:=λb=>match G.ω b with
   |some (.o i p)=>if i=id∧(all=true∨p≠[])then none else some (.o i p)
   |l=>l}
theorem Gh.gA{G:Gh}{id b:Nat}{all:Bool}(h:G.ω b=none):(G.free id all).ω b=none:=by simp[Gh.free,h]
theorem Gh.oQ{G:Gh}{id b i:Nat}{p:List (Nat×Nat)}{all:Bool}(h:G.ω b=some (.o i p))(hi:i=id)(ha:all=true∨p≠[]):(G.free id all).ω b=none:=by
 simp only[Gh.free,h]
 rw[if_pos ⟨hi,ha⟩]
theorem Gh.oR{G:Gh}{id b:Nat}{all:Bool}(h:G.q b=none):(G.free id all).q b=none:=by
 refine sC h Gh.gA λl hl hq=>?_
 cases l with
 |o i p=>
  simp only[Gh.free,hl]
  split
  ·exact .inl rfl
  ·exact .inr ⟨_,rfl,hq⟩
 |_=>simp[qt]at hq
theorem Gh.fa(G:Gh)(id:Nat)(all:Bool)(w:World):da (λl=>∃p,l=.o id p) (λ_=>False) G w (G.free id all) w:=by
 refine⟨Nat.le_refl _,λb _ hb=>⟨Gh.oR hb,rfl⟩,λb _ hb=>Gh.gA hb,λb l hb hl=>⟨?_,rfl⟩,λ_ _=>⟨rfl,λ_ _=>rfl⟩⟩
 cases l with
 |f=>simp[Gh.free,hb]
 |x i=>simp[Gh.free,hb]
 |o i p=>
  have:i≠id:=λe=>hl ⟨p,by rw[e]⟩
  simp[Gh.free,hb,this]
theorem eg.oS{id:Nat}{p:List (Nat×Nat)}{t:T}{dp:Bool}(h:eg G w id dp p t)(hp:p≠[])(fA:dp=true):eB (G.free id false).q w t (G.H id p):=by
 induction h with
 |nil h=>rw[h];exact .nil
 | @l dp p xs b wd cap bE elem cv h1 h2 h3 h4 h5 h6 h7 h8 h9 lP pK ih=>
  rw[h1]
  refine .l (cv:=cv) h6 h2.1 (wN (Gh.oQ h3 rfl (.inr hp))) (F0 h4) (λi j t ht=>?_) λi j t ht=>?_
  ·rw[uG h4,Nat.zero_add];exact h7 i j t ht
  ·cases t with
   |c v=>obtain⟨hv,hs⟩:=h8 i j v ht;rw[hv];exact .c hs
   |l ys=>rw[lP i j ys ht fA];exact ih i j ys ht fA (by simp) rfl
theorem eg.vF{id:Nat}{p:List (Nat×Nat)}{t:T}{dp:Bool}(h:eg G w id dp p t):eB (G.free id true).q w t (G.H id p):=by
 induction h with
 |nil h=>rw[h];exact .nil
 | @l dp p xs b wd cap bE elem cv h1 h2 h3 h4 h5 h6 h7 h8 h9 lP pK ih=>
  rw[h1]
  refine .l (cv:=cv) h6 h2.1 (wN (Gh.oQ h3 rfl (.inl rfl))) (F0 h4) (λi j t ht=>?_) λi j t ht=>?_
  ·rw[uG h4,Nat.zero_add];exact h7 i j t ht
  ·cases t with
   |c v=>obtain⟨hv,hs⟩:=h8 i j v ht;rw[hv];exact .c hs
   |l ys=>
    cases hd:dp with
    |false=>exact(h9 i j ys ht hd).aU (Nat.le_refl _) λb _ hb=>⟨Gh.oR hb,rfl⟩
    |true=>rw[lP i j ys ht hd];exact ih i j ys ht hd
theorem Rel.lE(h:Rel M B d up s ρ G a w){id:Nat}{dp:Bool}{x:Lf}(hx:s.get (.o id)=.ob dp x):
  Rel M B d up (s.set (.o id) (.fz .z x)) ρ (G.free id true) a w:=by
 have k:=G.fa id true w
 have hg:∀r,r≠.o id->(s.set (.o id) (.fz .z x)).get r=s.get r:=λr hr=>St.dZ _ _ (Ne.symm hr)
 refine⟨λe n he=>?_,λb=>?_,λi=>?_,λr i hi=>?_,λi hi=>?_,λb l hb=>?_,h.dn,?_,h.bt⟩
 ·rw[hg _ (by simp)];exact(h.tm e n he).aU k λ_ _ hn=>hn
 ·rw[hg _ (by simp)]
  exact(h.bx b).aU k (λ⟨p,hp⟩=>by cases hp) (λhn=>hn) λ_ _ hn=>hn
 ·by_cases hi:i=id
  ·subst hi
   rw[St.bN]
   obtain⟨t,ht,ho⟩:=(by simpa only[hx]using h.ob i:cA G w ρ i (.ob dp x))
   exact⟨t,ht,ho.vF,trivial⟩
  ·rw[hg _ (by simpa using hi)];exact(h.ob i).aU k (λp ⟨q,hq⟩=>hi (by cases hq;rfl)) (λhn=>hn) λ_ _ hn=>hn
 ·by_cases hr:r=.o id
  ·subst hr;rw[St.bN]at hi;simp[cT]at hi
  ·rw[hg r hr]at hi;exact h.fD r i hi
 ·refine h.key i ?_
  rcases hi with hi|hi
  ·exact .inl (by rwa[hg _ (by simp)]at hi)
  ·by_cases qO:i=id
   ·subst qO;exact .inr (by rw[hx];simp)
   ·exact .inr (by rwa[hg _ (by simpa using qO)]at hi)
 ·refine h.gx b l ?_
  simp only[Gh.free]at hb
  split at hb
  ·split at hb
   ·cases hb
   ·rename_i hw _;rw[hw];exact hb
  ·exact hb
 ·refine⟨h.base.os,h.base.tape,h.base.output,h.base.size,λb hb h0=>?_,λb hb=>?_,h.base.gl⟩
  ·obtain⟨h1,h2⟩:=h.base.free b hb h0
   exact⟨Gh.gA h1,h2⟩
  ·obtain⟨h1,h2⟩:=h.base.Bz b hb
   exact⟨by simp[Gh.free,h1],h2⟩
theorem Rel.flat(h:Rel M B d up s ρ G a w){id:Nat}{dp:Bool}{x:Lf}(hx:s.get (.o id)=.ob dp x):
  Rel M B d up (s.set (.o id) (.ob false x)) ρ (G.free id false) a w:=by
 have k:=G.fa id false w
 have hg:∀r,r≠.o id->(s.set (.o id) (.ob false x)).get r=s.get r:=λr hr=>St.dZ _ _ (Ne.symm hr)
 refine⟨λe n he=>?_,λb=>?_,λi=>?_,λr i hi=>?_,λi hi=>?_,λb l hb=>?_,h.dn,?_,h.bt⟩
 ·rw[hg _ (by simp)];exact(h.tm e n he).aU k λ_ _ hn=>hn
 ·rw[hg _ (by simp)]
  exact(h.bx b).aU k (λ⟨p,hp⟩=>by cases hp) (λhn=>hn) λ_ _ hn=>hn
 ·by_cases hi:i=id
  ·subst hi
   rw[St.bN]
   obtain⟨t,ht,ho⟩:=(by simpa only[hx]using h.ob i:cA G w ρ i (.ob dp x))
   refine⟨t,ht,?_⟩
   cases ho with
   |nil h=>exact .nil h
   | @l _ _ xs b wd cap bE elem cv h1 h2 h3 h4 h5 h6 h7 h8 h9 lP pK=>
    refine .l (cv:=cv) h1 h2 (by simp[Gh.free,h3]) h4 h5 h6 h7 h8 (λp j ys hy _=>?_) (λ_ _ _ _ hf=>by cases hf) (λ_ _ _ _ hf=>by cases hf)
    cases hd:dp with
    |false=>exact(h9 p j ys hy hd).aU (Nat.le_refl _) λb _ hb=>⟨Gh.oR hb,rfl⟩
    |true=>rw[lP p j ys hy hd];exact(pK p j ys hy hd).oS (by simp) rfl
  ·rw[hg _ (by simpa using hi)];exact(h.ob i).aU k (λp ⟨q,hq⟩=>hi (by cases hq;rfl)) (λhn=>hn) λ_ _ hn=>hn
 ·by_cases hr:r=.o id
  ·subst hr;rw[St.bN]at hi;simp[cT]at hi
  ·rw[hg r hr]at hi;exact h.fD r i hi
 ·refine h.key i ?_
  rcases hi with hi|hi
  ·exact .inl (by rwa[hg _ (by simp)]at hi)
  ·by_cases qO:i=id
   ·subst qO;exact .inr (by rw[hx];simp)
   ·exact .inr (by rwa[hg _ (by simpa using qO)]at hi)
 ·refine h.gx b l ?_
  simp only[Gh.free]at hb
  split at hb
  ·split at hb
   ·cases hb
   ·rename_i hw _;rw[hw];exact hb
  ·exact hb
 ·refine⟨h.base.os,h.base.tape,h.base.output,h.base.size,λb hb h0=>?_,λb hb=>?_,h.base.gl⟩
  ·obtain⟨h1,h2⟩:=h.base.free b hb h0
   exact⟨Gh.gA h1,h2⟩
  ·obtain⟨h1,h2⟩:=h.base.Bz b hb
   exact⟨by simp[Gh.free,h1],h2⟩
end
def uH:List Ce->List Value->Bool
 | [],[]=>true
 | .p (.k (.int k n))::cs,.int k' n'::vs=>decide (k=k')&&decide (n=n')&&uH cs vs
 | .p (.k (.bool b))::cs,.bool b'::vs=>decide (b=b')&&uH cs vs
 | .p (.k (.string x))::cs,.string x'::vs=>decide (x=x')&&uH cs vs
 | .n::cs,.slice none 0 0::vs=>uH cs vs
 |_,_=>false
def wP(P:Program):List (Nat×Nat)->List Field->Bool
 | [],[]=>true
 |o::os,f::fs=>Nat.beq f.offset o.1&&(match P.info? f.type with|some i=>!Nat.beq i.size 0&&Nat.beq i.size o.2|none=>false)&&wP P os fs
 |_,_=>false
def qP(P:Program):Nat->List Ce->List Field->Bool
 |_,[],[]=>true
 |i,z::zs,f::fs=>Nat.beq f.offset i&&decide (f.name≠"_")&&(match P.underlying f.type with|some (.int _)=>Nat.beq (lF z) 1|some .bool=>Nat.beq (lF z) 4|some .string=>Nat.beq (lF z) 2|_=>false)&&qP P (i+1) zs fs
 |_,_,_=>false
def tyB(P:Program)(t:Nat)(ti:TI):Bool:=
 match P.info? t,P.underlying t with
 |some i,some u=>
  Nat.beq i.size ti.sz&&Nat.beq i.bytes ti.bytes&&(match i.zero with|some z=>uH ti.zero z.cells.toList|none=>false)&&Nat.beq ti.zero.length ti.sz&&
  (match u with
   | .struct fs=>ti.ag&&(Nat.beq ti.kd 0||(Nat.beq ti.kd 5&&Nat.beq fs.size ti.sz&& !P.stoodInHeld t&& !P.eqGuardType P.depth t&&qP P 0 ti.zero fs.toList))&&wP P ti.fs fs.toList
   | .array ..=>false
   | .slice e=>!ti.ag&&Nat.beq ti.sz 1&&Nat.beq ti.kd 3&&Nat.beq e ti.el&&ti.fs.isEmpty
   | .int kk=>!ti.ag&&Nat.beq ti.sz 1&&Nat.beq ti.kd 1&&(match ti.zero with| [.p (.k (.int k' _))]=>decide (kk=k')|_=>false)&&ti.fs.isEmpty
   | .string=>!ti.ag&&Nat.beq ti.sz 1&&Nat.beq ti.kd 2&&ti.fs.isEmpty
   | .bool=>!ti.ag&&Nat.beq ti.sz 1&&Nat.beq ti.kd 4&&ti.fs.isEmpty
   |_=>!ti.ag&&Nat.beq ti.sz 1&&Nat.beq ti.kd 0&&ti.fs.isEmpty)
 |_,_=>false
def zd:List Ce->List Value->Prop
 | [],[]=>True
 | .p (.k v)::cs,v'::vs=>v=v'∧jH v=true∧zd cs vs
 | .n::cs,v::vs=>v=.slice none 0 0∧zd cs vs
 |_,_=>False
theorem abV:∀{cs:List Ce} {vs:List Value},uH cs vs=true->zd cs vs:=by
 intro cs
 induction cs with
 |nil=>intro vs h;cases vs<;>simp_all[uH,zd]
 |cons c cs ih=>
  intro vs h
  cases vs with
  |nil=>cases c<;>simp_all[uH]
  |cons v vs=>
   cases c with
   |p x=>
    cases x with
    |k u=>
     cases u<;>cases v<;>simp_all[uH,zd,jH]
    |a n=>simp[uH]at h
    |e=>simp[uH]at h
   |o id q=>simp[uH]at h
   |n=>
    cases v with
    |slice a l c=>
     unfold uH at h
     split at h<;>simp_all[zd]
    |_=>simp[uH]at h
   |d=>simp[uH]at h
structure sF (P:Program) (t:Nat) (ti:TI):Prop where
 info:∃i z,P.info? t=some i∧i.size=ti.sz∧i.bytes=ti.bytes∧i.zero=some z∧zd ti.zero z.cells.toList
 ze:ti.zero.length=ti.sz
 one:ti.ag=false->ti.sz=1
 ag:∃u,P.underlying t=some u∧(ti.ag=true↔∃fs,u=.struct fs)∧(∀n e,u≠.array n e)
 sl:ti.kd=3->P.underlying t=some (.slice ti.el)
 it:ti.kd=1->∃k,P.underlying t=some (.int k)
 st:ti.kd=2->P.underlying t=some .string
 ik:ti.kd=1->∀k n,ti.zero=[.p (.k (.int k n))]->P.underlying t=some (.int k)
 bo:ti.kd=4->P.underlying t=some .bool
 ni:ti.kd≠1->∀k,P.underlying t≠some (.int k)
 fs:∀(f:Nat) (o:Nat×Nat),ti.fs[f]?=some o->∃(fs:Array Field) (xZ:Field) (i:TypeInfo),P.underlying t=some (.struct fs)∧fs[f]?=some xZ∧xZ.offset=o.1∧P.info? xZ.type=some i∧i.size≠0∧i.size=o.2
 fl:∀fs,P.underlying t=some (.struct fs)->fs.size=ti.fs.length
 eq:ti.kd=5->∃fs:Array Field,P.underlying t=some (.struct fs)∧fs.size=ti.sz∧P.stoodInHeld t=false∧P.eqGuardType P.depth t=false∧qP P 0 ti.zero fs.toList=true
theorem HE{P:Program}:∀{os:List (Nat×Nat)} {fs:List Field},wP P os fs=true->fs.length=os.length∧∀(f:Nat) (o:Nat×Nat),os[f]?=some o->
  ∃(xZ:Field) (i:TypeInfo),fs[f]?=some xZ∧xZ.offset=o.1∧P.info? xZ.type=some i∧i.size≠0∧i.size=o.2
 | [],[],_=>⟨rfl,λf o h=>by simp at h⟩
 | [],_::_,h=>by simp[wP]at h
 |o::os,[],h=>by simp[wP]at h
 |o::os,fl::fs,h=>by
  simp only[wP,bA]at h
  obtain⟨⟨h1,h2⟩,h3⟩:=h
  obtain⟨hl,hr⟩:=HE h3
  refine⟨by simp[hl],λf o' hf=>?_⟩
  cases f with
  |zero=>
   simp at hf
   subst hf
   cases hi:P.info? fl.type with
   |none=>simp[hi]at h2
   |some i=>
    simp only[hi,bA]at h2
    exact⟨fl,i,rfl,du h1,hi,λe=>by simp[e]at h2,du h2.2⟩
  |succ f=>exact hr f o' (by simpa using hf)
theorem abW{P:Program}{t:Nat}{ti:TI}(h:tyB P t ti=true):sF P t ti:=by
 unfold tyB at h
 split at h
 ·rename_i i u hi hu
  simp only[bA]at h
  obtain⟨⟨⟨⟨h1,h2⟩,h3⟩,h4⟩,h5⟩:=h
  have z:∃z,i.zero=some z∧zd ti.zero z.cells.toList:=by
   split at h3
   ·rename_i z hz;exact⟨z,hz,abV h3⟩
   ·cases h3
  obtain⟨z,hz,uI⟩:=z
  refine⟨⟨i,z,hi,du h1,du h2,hz,uI⟩,du h4,?_,⟨u,hu,?_,?_⟩,?_,?_,?_,?_,?_,?_,?_,?_,?_⟩
  ·intro ha;split at h5<;>simp_all
  ·split at h5<;>simp_all
  ·intro n e dj;subst dj;simp at h5
  ·intro hk;rw[hu];split at h5<;>simp_all
  ·intro hk;rw[hu];split at h5<;>simp_all
  ·intro hk;rw[hu];split at h5<;>simp_all
  ·intro hk k n hz
   rw[hu]
   rw[hz,hk]at h5
   split at h5
   ·simp only[bA,Bool.or_eq_true]at h5
    obtain⟨⟨_,h6⟩,_⟩:=h5
    rcases h6 with h6|⟨⟨⟨⟨h6,_⟩,_⟩,_⟩,_⟩<;>exact absurd h6 (by decide)
   ·cases h5
   ·simp only[bA]at h5
    exact absurd h5.1.1.2 (by decide)
   ·simp only[bA,decide_eq_true_eq]at h5
    rw[h5.1.2]
   all_goals
    simp only[bA]at h5
    exact absurd h5.1.2 (by decide)
  ·intro hk;rw[hu];split at h5<;>simp_all
  ·intro hk k dj;rw[hu]at dj;cases dj;simp at h5;exact hk h5.1.1.2
  ·intro f o hf
   rw[hu]
   split at h5
   ·rename_i fs
    simp only[bA]at h5
    obtain⟨xZ,i',h6,h7⟩:=(HE h5.2).2 f o hf
    exact⟨fs,xZ,i',rfl,by simpa using h6,h7⟩
   ·cases h5
   all_goals
    simp only[bA,List.isEmpty_iff]at h5
    rw[h5.2]at hf
    simp at hf
  ·intro fs tQ
   rw[hu]at tQ
   cases tQ
   simp only[bA]at h5
   have:=(HE h5.2).1
   simpa using this
  ·intro hk
   rw[hu]
   split at h5
   ·rename_i fs
    simp only[bA,Bool.or_eq_true,Bool.not_eq_true']at h5
    obtain⟨⟨_,h6⟩,_⟩:=h5
    rcases h6 with h6|⟨⟨⟨⟨_,h7⟩,h8⟩,h9⟩,lP⟩
    ·have:=du h6;omega
    ·exact⟨fs,rfl,du h7,h8,h9,lP⟩
   ·cases h5
   all_goals
    simp[hk]at h5
 ·cases h
section
variable {M:Nat->Prop} {B:eu} {d:Nat} {up:Nat->Nat->Value} {ρ:List T} {G:Gh} {a:Act} {w:World} {S:Nat->af}
structure db (M:Nat->Prop) (B:eu) (d:Nat) (up:Nat->Nat->Value) (ρ:List T) (G:Gh) (a:Act) (w:World) (k:Wk) (G1:Gh):Prop where
 rel:Rel M B d up (k.r.eY k.w) ρ G1 a w
 aU:da (ng k.w) (λ_=>False) G w G1 w
theorem Wk.aM(k:Wk)(r:bf):k.get r=(k.r.eY k.w).get r:=by
 rw[St.aM]
 unfold Wk.get
 cases k.w.look r<;>rfl
theorem F1{W:St}{r:bf}{v:SV}{l:Lb}(h:ng W l):ng (W.set r v) l:=by
 cases l with
 |f=>exact h
 |x b=>
  show(W.set r v).look (.x b)≠none
  by_cases hr:r=.x b
  ·subst hr;rw[St.be];simp
  ·rw[St.cg _ _ hr];exact h
 |o i p=>
  show(W.set r v).look (.o i)≠none
  by_cases hr:r=.o i
  ·subst hr;rw[St.be];simp
  ·rw[St.cg _ _ hr];exact h
theorem F2(s W:St)(r:bf)(v:SV)(r':bf):(s.eY (W.set r v)).get r'=((s.eY W).set r v).get r':=by
 rw[St.aM]
 by_cases h:r=r'
 ·subst h;rw[St.be,St.bN];rfl
 ·rw[St.cg _ _ h,St.dZ _ _ h,St.aM]
theorem db.start{s:St}(h:Rel M B d up s ρ G a w)(R:List bf)(ct:Ct):db M B d up ρ G a w ⟨s.only R,[],ct,[]⟩ G:=by
 refine⟨h.forget λr=>?_,(da.refl G w).mono (λ_ h=>h.elim) λ_ h=>h⟩
 by_cases hr:r∈R
 ·exact .inl (St.za s R hr)
 ·exact .inr (St.qN s R hr)
theorem db.same{k k':Wk}{G1:Gh}(h:db M B d up ρ G a w k G1)(hs:k.eO k'):db M B d up ρ G a w k' G1:=by
 obtain⟨h1,h2,h3⟩:=hs
 exact⟨by rw[h1,h2];exact h.rel,by rw[h2];exact h.aU⟩
theorem db.obj{k:Wk}{G1:Gh}(h:db M B d up ρ G a w k G1)(id:Nat):cA G1 w ρ id (k.get (.o id)):=by
 rw[Wk.aM];exact h.rel.ob id
theorem db.lE{k k':Wk}{G1:Gh}(h:db M B d up ρ G a w k G1){id:Nat}(hk:k.lE id=some k'):
  ∃G2,db M B d up ρ G a w k' G2∧G2.β=G1.β∧G2.H=G1.H∧k'.r=k.r∧k'.ct=k.ct∧k'.is=k.is:=by
 unfold Wk.lE at hk
 split at hk
 ·rename_i dp x hx
  cases hk
  rw[Wk.aM]at hx
  refine⟨_,⟨(h.rel.lE hx).congr (F2 _ _ _ _),(h.aU.mono (λl hl=>F1 hl) λ_ hn=>hn).trans ((G1.fa id true w).mono ?_ λ_ hn=>hn)⟩,rfl,rfl,rfl,rfl,rfl⟩
  rintro l ⟨p,rfl⟩
  show(k.w.set _ _).look (.o id)≠none
  rw[St.be];simp
 ·cases hk;exact⟨G1,h,rfl,rfl,rfl,rfl,rfl⟩
 ·cases hk
theorem db.flat{k k':Wk}{G1:Gh}(h:db M B d up ρ G a w k G1){id:Nat}(hk:k.flat id=some k'):
  ∃G2,db M B d up ρ G a w k' G2∧G2.β=G1.β∧G2.H=G1.H∧k'.r=k.r∧k'.ct=k.ct∧k'.is=k.is:=by
 unfold Wk.flat at hk
 split at hk
 ·rename_i dp x hx
  cases hk
  rw[Wk.aM]at hx
  refine⟨_,⟨(h.rel.flat hx).congr (F2 _ _ _ _),(h.aU.mono (λl hl=>F1 hl) λ_ hn=>hn).trans ((G1.fa id false w).mono ?_ λ_ hn=>hn)⟩,rfl,rfl,rfl,rfl,rfl⟩
  rintro l ⟨p,rfl⟩
  show(k.w.set _ _).look (.o id)≠none
  rw[St.be];simp
 ·cases hk;exact⟨G1,h,rfl,rfl,rfl,rfl,rfl⟩
 ·cases hk
def bH(P:Program)(M:Nat->Prop)(B:eu)(d:Nat)(up:Nat->Nat->Value)(ρ:List T)(a:Act)(w:World)(s:St)(o:Oper)(W:St)(Q:Exit->Act->World->Prop):Prop:=
 o.wp P a w (λa' w'=>∃G',Rel M B d up (s.eY W) ρ G' a' w'∧a'.tmps.size=a.tmps.size) Q
theorem x_(a:Act)(dst:Option Nat)(v:Value):(a.put dst v).tmps.size=a.tmps.size:=by
 cases dst<;>simp[Act.put]
theorem abX{P:Program}{s:St}{k:Wk}{G1:Gh}(h:Rel M B d up s ρ G a w)(hk:db M B d up ρ G a w k G1){o:Oper}{n:Nat}(ho:o.dst=some n)(hn:n<a.tmps.size)
  {v:Value}(hx:(execOp a.eval o).run P w=.ok (.value v) w){x:SV}(hv:cz G1 w ρ x v)(hm:∀i∈cT x,M i)(Q:Exit->Act->World->Prop):
  bH P M B d up ρ a w s o (k.w.set (.t d n) x) Q:=by
 simp only[bH,Oper.wp,hx,Oper.upon,ho]
 refine⟨G1,h.glue (s':=k.r) (hk.aU.mono (λl hl=>F1 hl) λ_ hf=>hf) (λ_ hf=>hf.elim) (λ_ hm=>hm) ?_ ?_,x_ _ _ _⟩
 ·intro m oT;cases oT;rw[St.be];simp
 ·exact(hk.rel.CR hn hv hm).congr (F2 _ _ _ _)
theorem abY{P:Program}{s:St}{k:Wk}{G1:Gh}(h:Rel M B d up s ρ G a w)(hk:db M B d up ρ G a w k G1){o:Oper}(ho:o.dst=none)
  {v:Value}(hx:(execOp a.eval o).run P w=.ok (.value v) w)(Q:Exit->Act->World->Prop):
  bH P M B d up ρ a w s o k.w Q:=by
 simp only[bH,Oper.wp,hx,Oper.upon,ho]
 exact⟨G1,h.glue (s':=k.r) (dst:=none) (hk.aU.mono (λl hl=>hl) λ_ hf=>hf) (λ_ hf=>hf.elim) (λ_ hm=>hm) (λ_ hf=>by cases hf) hk.rel,rfl⟩
theorem abZ{v:Value}:cz G w ρ (yL v) v:=by
 unfold yL
 split
 ·exact⟨_,rfl,rfl,λ_ h=>by cases h⟩
 ·rename_i dj
  cases hs:jH v with
  |false=>trivial
  |true=>
   refine⟨_,rfl,⟨.c v,by simp[Lf.fq,hs],.c hs⟩,λx h=>?_⟩
   subst h;simp[jH]at hs
theorem ab0{v:Value}:cT (yL v)=[]:=by
 unfold yL
 split
 ·rfl
 ·cases jH v<;>rfl
theorem BA{s:St}(h:Rel M B d up s ρ G a w)(x:Operand):cz G w ρ (bY d s.get x) (a.eval x)∧∀i∈cT (bY d s.get x),M i:=by
 cases x with
 |tmp t=>
  refine⟨?_,h.fD _⟩
  have:=h.tm d t (Nat.le_refl _)
  simpa[nW,Act.eval,bY]using this
 |const v=>exact⟨abZ,λi hi=>by simp[bY,ab0]at hi⟩
 |global g=>exact⟨trivial,λi hi=>by simp[bY,cT]at hi⟩
 |func f=>exact⟨rfl,λi hi=>by simp[bY,cT]at hi⟩
theorem db.gX{k:Wk}{G1:Gh}(h:db M B d up ρ G a w k G1)(x:Operand):cz G1 w ρ (bY d k.get x) (a.eval x)∧∀i∈cT (bY d k.get x),M i:=by
 have e:bY d k.get x=bY d (k.r.eY k.w).get x:=by
  cases x with
  |tmp t=>exact Wk.aM _ _
  |_=>rfl
 rw[e];exact BA h.rel x
theorem Wk.fY{k k':Wk}{x:SV}{y:Lf}{G1:Gh}{v:Value}(hk:db M B d up ρ G a w k G1)(h:k.one x=some (k',y))(hd:k'.bm S ρ)(hr:cz G1 w ρ x v):
  k.bm S ρ∧k.eO k'∧∃t,y.fq ρ=some t∧eB (er G1.ω) w t v:=by
 unfold Wk.one at h
 split at h
 ·obtain⟨e,he,hc,_⟩:=hr
  cases he
  exact⟨Wk.lm h hd,Wk.dF h,Wk.kN h hd hc λid _=>hk.obj id⟩
 ·cases h
theorem eB.scalar{ω:Nat->Option Lb}{v u:Value}(h:eB ω w (.c v) u):u=v∧jH v=true:=by
 cases h with
 |c h=>exact⟨rfl,h⟩
theorem eB.rows{ω:Nat->Option Lb}{xs:List (List T)}{u:Value}(h:eB ω w (.l xs) u):∃b c,u=.slice b xs.length c∧(xs≠[]->xs.length<=c):=by
 cases h with
 |nil=>exact⟨_,_,rfl,λh=>absurd rfl h⟩
 |l _ hc=>exact⟨_,_,rfl,λ_=>hc⟩
end
section
variable {M:Nat->Prop} {B:eu} {d:Nat} {up:Nat->Nat->Value} {ρ:List T} {G:Gh} {a:Act} {w:World} {S:Nat->af} {P:Program}
def bP(d:Nat)(o:Oper)(k:Wk)(v:SV):Wk:=match o.dst with|some n=>k.set (.t d n) v|none=>k
theorem qQ{s:St}{k:Wk}{G1:Gh}(h:Rel M B d up s ρ G a w)(hk:db M B d up ρ G a w k G1){o:Oper}(hn:∀n,o.dst=some n->n<a.tmps.size)
  {v:Value}(hx:(execOp a.eval o).run P w=.ok (.value v) w){x:SV}(hv:cz G1 w ρ x v)(hm:∀i∈cT x,M i)(Q:Exit->Act->World->Prop):
  bH P M B d up ρ a w s o (bP d o k x).w Q:=by
 unfold bP
 cases ho:o.dst with
 |none=>exact abY h hk ho hx Q
 |some n=>exact abX h hk ho (hn n ho) hx hv hm Q
theorem O1{G1:Gh}{y:Lf}{t:T}{v:Value}(hy:y.fq ρ=some t)(hd:eB G1.q w t v)(ha:∀x,v≠.agg x):cz G1 w ρ (.v false [.p y]) v:=
 ⟨_,rfl,⟨t,hy,hd⟩,ha⟩
theorem CT{G1:Gh}{y:Lf}{v:Value}(hy:y.fq ρ=some (.c v))(hs:jH v=true):cz G1 w ρ (.v false [.p y]) v:=
 O1 hy (.c hs) λx hx=>by subst hx;simp[jH]at hs
theorem ab1{op:BinOp}{t:TypeId}{x y:Operand}{u v r:Value}(h:lD op u v=some r):
  ((do eqGuard op t x y u v;binOp op t u v:Sem Value)).run P w=.ok r w∧jH r=true:=by
 cases u<;>cases v<;>simp only[lD]at h<;>try cases h
 ·rename_i k n k' m
  have hg:(eqGuard op t x y (.int k n) (.int k' m)).run P w=.ok () w:=by
   unfold eqGuard;split<;>rfl
  rw[Sem.run_bind,hg]
  cases op<;>simp only at h<;>(repeat' (split at h))<;>(try cases h)<;>
   simp_all[binOp,Op.intArith,Op.intDiv,Op.intCmp,Op.intBits,Op.shift,jH]<;>(intro aty;omega)
 ·rename_i s t'
  have hg:(eqGuard op t x y (.string s) (.string t')).run P w=.ok () w:=by
   unfold eqGuard;split<;>rfl
  rw[Sem.run_bind,hg]
  cases op<;>simp only at h<;>(try cases h)
  ·split at h
   ·rename_i hs
    cases h
    refine⟨?_,rfl⟩
    have:¬((s.size+t'.size:Nat):Int)>IntKind.i64.max:=by
     have:IntKind.i64.max=9223372036854775807:=by rfl
     simp only[rL]at hs
     omega
    simp only[Result.andThen_ok,binOp,Op.stringOp,if_neg this,Sem.run_pure]
   ·cases h
  ·exact⟨rfl,rfl⟩
  ·exact⟨rfl,rfl⟩
theorem ab2{op:BinOp}{t:TypeId}{x y:Operand}{u v r:Value}(ht:P.underlying t=some .bool)(h:Hg op u v=some r):
  ((do eqGuard op t x y u v;binOp op t u v:Sem Value)).run P w=.ok r w∧jH r=true:=by
 cases u<;>cases v<;>simp only[Hg]at h<;>try cases h
 rename_i p q
 have hg:(eqGuard op t x y (.bool p) (.bool q)).run P w=.ok () w:=by
  unfold eqGuard;split<;>rfl
 have he:(Op.equal t (.bool p) (.bool q)).run P w=.ok (p==q) w:=by
  have key:∀n,(Op.equalIn (n+1) t (.bool p) (.bool q)).run P w=.ok (p==q) w:=λn=>by
   simp only[Op.equalIn,Sem.run_bind,run_underlying ht,Result.andThen_ok,Sem.run_pure]
  exact key 9999
 rw[Sem.run_bind,hg]
 cases op<;>simp only at h<;>(try cases h)
 ·simp[binOp,he,jH]
 ·simp[binOp,he,jH]
theorem ab3{op:UnOp}{u r:Value}(h:unV op u=some r):(Op.unary op u).run P w=.ok r w∧jH r=true:=by
 cases u<;>simp only[unV]at h<;>try cases h
 ·cases op<;>simp only at h<;>(try cases h)
  exact⟨rfl,rfl⟩
 ·cases op<;>simp only at h<;>(try cases h)
  exact⟨rfl,rfl⟩
theorem O2{k k1 k2:Wk}{G1:Gh}{c e:Ce}{x y:Lf}{u v:Value}{p:Prim}(hk:db M B d up ρ G a w k G1)
  (h1:k.val c=some (k1,x))(h2:k1.val e=some (k2,y))(hd:(k2.em p [x,y]).1.bm S ρ)(hc:fH G1 w ρ c u)(he:fH G1 w ρ e v):
  k.bm S ρ∧db M B d up ρ G a w (k2.em p [x,y]).1 G1∧(k2.em p [x,y]).1.ct.i=k.ct.i∧∃t t' r,eB (er G1.ω) w t u∧eB (er G1.ω) w t' v∧p.ev [t,t']=some r∧(k2.em p [x,y]).2.fq ρ=some r:=by
 obtain⟨ov,r,hr,mZ⟩:=Wk.bK hd
 have fI:=hk.same (Wk.dF h1)
 have cJ:=fI.same (Wk.dF h2)
 have fi:=Wk.lm h2 ov
 obtain⟨t,ht,lQ⟩:=Wk.kN h1 fi hc λid _=>hk.obj id
 obtain⟨t',jj,l_⟩:=Wk.kN h2 ov he λid _=>fI.obj id
 refine⟨Wk.lm h1 fi,cJ.same (Wk.bB _ _ _),?_,t,t',r,lQ,l_,?_,mZ⟩
 ·rw[(Wk.bB k2 p [x,y]).i,(Wk.dF h2).i,(Wk.dF h1).i]
 ·simpa[Lf.bG ht,Lf.bG jj]using hr
structure dU (P:Program) (cx:Cx):Prop where
 ty:∀t ti,cx.ty t=some ti->sF P t ti
variable {cx:Cx} {cw eW oi:Nat} {s:St} {R:List bf} {ct:Ct} {k':Wk} {o:Oper} {Q:Exit->Act->World->Prop}
theorem O3(h:Rel M B d up s ρ G a w)(hn:∀n,o.dst=some n->n<a.tmps.size){x:Operand}(ho:o.op=.move x∨o.op=.assign x)
  (hk:iy cx cw eW d o oi ⟨s.only R,[],ct,[]⟩=some k'):bH P M B d up ρ a w s o k'.w Q∧k'.ct.i=ct.i:=by
 have hw:=db.start h R ct
 have hx:(execOp a.eval o).run P w=.ok (.value (a.eval x)) w:=by
  unfold execOp;rcases ho with ho|ho<;>rw[ho]<;>rfl
 have cJ:some (bP d o ⟨s.only R,[],ct,[]⟩ (bY d (Wk.get ⟨s.only R,[],ct,[]⟩) x))=some k':=by
  rw[<-hk];unfold iy bP;rcases ho with ho|ho<;>rw[ho]<;>rfl
 cases cJ
 obtain⟨h1,h2⟩:=hw.gX x
 refine⟨qQ h hw hn hx h1 h2 Q,?_⟩
 unfold bP;cases o.dst<;>rfl
theorem cF{k:Wk}{v:SV}:(bP d o k v).bm S ρ↔k.bm S ρ:=by
 unfold bP;cases o.dst<;>rfl
theorem mw{k:Wk}{v:SV}:(bP d o k v).ct=k.ct:=by
 unfold bP;cases o.dst<;>rfl
theorem ab4(dC:dU P cx)(h:Rel M B d up s ρ G a w)(hn:∀n,o.dst=some n->n<a.tmps.size){op:BinOp}{t yt:TypeId}{x y:Operand}(ho:o.op=.binOp op t x y yt)
  {c e:Ce}(wQ:bY d (Wk.get ⟨s.only R,[],ct,[]⟩) x=.v false [c])(CU:bY d (Wk.get ⟨s.only R,[],ct,[]⟩) y=.v false [e])
  (hk:iy cx cw eW d o oi ⟨s.only R,[],ct,[]⟩=some k')(hd:k'.bm S ρ):bH P M B d up ρ a w s o k'.w Q∧k'.ct.i=ct.i:=by
 have hw:=db.start h R ct
 simp only[iy,ho,wQ,CU,cm]at hk
 obtain⟨ti,fj,⟨k1,x1⟩,h1,⟨k2,y1⟩,h2,hk⟩:=hk
 have vG:=(hw.gX x).1
 have HF:=(hw.gX y).1
 rw[wQ]at vG
 rw[CU]at HF
 obtain⟨_,nX,hc,_⟩:=vG
 obtain⟨_,he1,he,_⟩:=HF
 cases nX
 cases he1
 simp only at hk
 have hT:=dC.ty _ _ fj
 have fin:∀(p:Prim) (r:Value),(bP d o (k2.em p [x1,y1]).1 (.v false [.p (k2.em p [x1,y1]).2]))=k'->(execOp a.eval o).run P w=.ok (.value r) w->jH r=true->
   (k2.em p [x1,y1]).2.fq ρ=some (.c r)->db M B d up ρ G a w (k2.em p [x1,y1]).1 G->(k2.em p [x1,y1]).1.ct.i=ct.i->bH P M B d up ρ a w s o k'.w Q∧k'.ct.i=ct.i:=by
  intro p r hp hr hs hv tR hi
  subst hp
  refine⟨qQ h tR hn hr (CT hv hs) (λi hi=>by simp[cT,dt]at hi) Q,?_⟩
  rw[mw];exact hi
 have hex:∀r,((do eqGuard op t x y (a.eval x) (a.eval y);binOp op t (a.eval x) (a.eval y):Sem Value)).run P w=.ok r w->(execOp a.eval o).run P w=.ok (.value r) w:=by
  intro r hr
  unfold execOp
  rw[ho]
  show Sem.run P (do let v <-(do eqGuard op t x y (a.eval x) (a.eval y);binOp op t (a.eval x) (a.eval y):Sem Value);pure (Next.value v)) w=_
  rw[Sem.run_bind,hr];rfl
 cases h4:Nat.beq ti.kd 4 with
 |true=>
  simp only[h4,cond_true,bc]at hk
  have jk:(k2.em (.bb op) [x1,y1]).1.bm S ρ:=by
   have:(bP d o (k2.em (.bb op) [x1,y1]).1 (.v false [.p (k2.em (.bb op) [x1,y1]).2])).bm S ρ:=by rw[show bP d o _ _=k' from hk];exact hd
   exact cF.1 this
  obtain⟨_,tR,hi,t1,t2,r,fi,ov,hp,hv⟩:=O2 hw h1 h2 jk hc he
  cases t1 with
  |l _=>simp[Prim.ev,T.val]at hp
  |c u=>
   cases t2 with
   |l _=>simp[Prim.ev,T.val]at hp
   |c v=>
    obtain⟨e1,_⟩:=fi.scalar
    obtain⟨e2,_⟩:=ov.scalar
    simp only[Prim.ev,T.val,Option.bind_some,cm,bc]at hp
    obtain⟨r',hb,rfl⟩:=hp
    obtain⟨hr,hs⟩:=ab2 (P:=P) (w:=w) (t:=t) (x:=x) (y:=y) (hT.bo (du h4)) hb
    exact fin _ r' hk (hex r' (by rw[e1,e2];exact hr)) hs hv tR hi
 |false=>
  simp only[h4,cond_false]at hk
  cases h5:(Nat.beq ti.kd 1||Nat.beq ti.kd 2)with
  |false=>simp[h5]at hk
  |true=>
   simp only[h5,cond_true,bc]at hk
   have jk:(k2.em (.bin op) [x1,y1]).1.bm S ρ:=by
    have:(bP d o (k2.em (.bin op) [x1,y1]).1 (.v false [.p (k2.em (.bin op) [x1,y1]).2])).bm S ρ:=by rw[show bP d o _ _=k' from hk];exact hd
    exact cF.1 this
   obtain⟨_,tR,hi,t1,t2,r,fi,ov,hp,hv⟩:=O2 hw h1 h2 jk hc he
   cases t1 with
   |l _=>simp[Prim.ev,T.val]at hp
   |c u=>
    cases t2 with
    |l _=>simp[Prim.ev,T.val]at hp
    |c v=>
     obtain⟨e1,_⟩:=fi.scalar
     obtain⟨e2,_⟩:=ov.scalar
     simp only[Prim.ev,T.val,Option.bind_some,cm,bc]at hp
     obtain⟨r',hb,rfl⟩:=hp
     obtain⟨hr,hs⟩:=ab1 (P:=P) (w:=w) (t:=t) (x:=x) (y:=y) hb
     exact fin _ r' hk (hex r' (by rw[e1,e2];exact hr)) hs hv tR hi
end
section
variable {M:Nat->Prop} {B:eu} {d:Nat} {up:Nat->Nat->Value} {ρ:List T} {G:Gh} {a:Act} {w:World} {S:Nat->af} {P:Program}
variable {cx:Cx} {cw eW oi:Nat} {s:St} {R:List bf} {ct:Ct} {k':Wk} {o:Oper} {Q:Exit->Act->World->Prop}
theorem zf(h:Rel M B d up s ρ G a w)(hn:∀n,o.dst=some n->n<a.tmps.size){k k1:Wk}{G1:Gh}(hk:db M B d up ρ G a w k G1){x:SV}{v:Value}{y:Lf}{p:Prim}
  (h1:k.one x=some (k1,y))(hr:cz G1 w ρ x v)(hd:(bP d o (k1.em p [y]).1 (.v false [.p (k1.em p [y]).2])).bm S ρ)
  (hx:∀t r,eB (er G1.ω) w t v->p.ev [t]=some r->∃u,r=.c u∧jH u=true∧(execOp a.eval o).run P w=.ok (.value u) w):
  bH P M B d up ρ a w s o (bP d o (k1.em p [y]).1 (.v false [.p (k1.em p [y]).2])).w Q∧(bP d o (k1.em p [y]).1 (.v false [.p (k1.em p [y]).2])).ct.i=k.ct.i:=by
 have jk:=cF.1 hd
 obtain⟨fi,r,nY,hv⟩:=Wk.bK jk
 obtain⟨_,hs,t,ht,lQ⟩:=Wk.fY hk h1 fi hr
 obtain⟨u,rfl,hsu,d_⟩:=hx t r lQ (by simpa[Lf.bG ht]using nY)
 refine⟨qQ h ((hk.same hs).same (Wk.bB _ _ _)) hn d_ (CT hv hsu) (λi hi=>by simp[cT,dt]at hi) Q,?_⟩
 rw[mw,(Wk.bB k1 p [y]).i,hs.i]
theorem O4(h:Rel M B d up s ρ G a w)(hn:∀n,o.dst=some n->n<a.tmps.size){k k1 k2:Wk}{G1:Gh}(hk:db M B d up ρ G a w k G1){x x':SV}{v v':Value}{y y':Lf}{p:Prim}
  (h1:k.one x=some (k1,y))(h2:k1.one x'=some (k2,y'))(hr:cz G1 w ρ x v)(jc:cz G1 w ρ x' v')(hd:(bP d o (k2.em p [y,y']).1 (.v false [.p (k2.em p [y,y']).2])).bm S ρ)
  (hx:∀t t' r,eB (er G1.ω) w t v->eB (er G1.ω) w t' v'->p.ev [t,t']=some r->∃u,r=.c u∧jH u=true∧(execOp a.eval o).run P w=.ok (.value u) w):
  bH P M B d up ρ a w s o (bP d o (k2.em p [y,y']).1 (.v false [.p (k2.em p [y,y']).2])).w Q∧(bP d o (k2.em p [y,y']).1 (.v false [.p (k2.em p [y,y']).2])).ct.i=k.ct.i:=by
 have jk:=cF.1 hd
 obtain⟨ov,r,nY,hv⟩:=Wk.bK jk
 have kF:k.eO k1:=by
  unfold Wk.one at h1;split at h1
  ·exact Wk.dF h1
  ·cases h1
 obtain⟨fi,my,t',jj,l_⟩:=Wk.fY (hk.same kF) h2 ov jc
 obtain⟨_,_,t,ht,lQ⟩:=Wk.fY hk h1 fi hr
 obtain⟨u,rfl,hsu,d_⟩:=hx t t' r lQ l_ (by simpa[Lf.bG ht,Lf.bG jj]using nY)
 refine⟨qQ h (((hk.same kF).same my).same (Wk.bB _ _ _)) hn d_ (CT hv hsu) (λi hi=>by simp[cT,dt]at hi) Q,?_⟩
 rw[mw,(Wk.bB k2 p [y,y']).i,my.i,kF.i]
theorem ab7(h:Rel M B d up s ρ G a w)(hn:∀n,o.dst=some n->n<a.tmps.size){op:UnOp}{t:TypeId}{x:Operand}(ho:o.op=.unOp op t x)
  (hk:iy cx cw eW d o oi ⟨s.only R,[],ct,[]⟩=some k')(hd:k'.bm S ρ):bH P M B d up ρ a w s o k'.w Q∧k'.ct.i=ct.i:=by
 have hw:=db.start h R ct
 simp only[iy,ho,cm,bc]at hk
 obtain⟨⟨k1,y⟩,h1,hk⟩:=hk
 subst hk
 refine zf h hn hw h1 (hw.gX x).1 hd λt r lQ hr=>?_
 cases t with
 |l _=>simp[Prim.ev,T.val]at hr
 |c u=>
  obtain⟨e,_⟩:=lQ.scalar
  simp only[Prim.ev,T.val,Option.bind_some,cm,bc]at hr
  obtain⟨r',hb,rfl⟩:=hr
  obtain⟨d_,hs⟩:=ab3 (P:=P) (w:=w) hb
  refine⟨r',rfl,hs,?_⟩
  unfold execOp;rw[ho]
  show Sem.run P (do let v <-Op.unary op (a.eval x);pure (Next.value v)) w=_
  rw[e,Sem.run_bind,d_];rfl
theorem ab8(ns:List Int):∀s:ByteArray,ns.foldl (λr n=>r.push (UInt8.ofNat n.toNat)) s=⟨s.data++(ns.map λn=>UInt8.ofNat n.toNat).toArray⟩:=by
 induction ns with
 |nil=>intro s;simp
 |cons n ns ih=>intro s;rw[List.foldl_cons,ih];simp[ByteArray.push]
theorem ab9(ns:List Int):ns.foldl (λr n=>r.push (UInt8.ofNat n.toNat)) ByteArray.empty=yK ns:=by
 rw[ab8];unfold yK;congr 1;exact Array.empty_append
theorem O5:∀{xs:List (List T)} {ns:List Int},wy xs=some ns->ns.length=xs.length∧∀(j:Nat) (n:Int),ns[j]?=some n->xs[j]?=some [T.c (.int .u8 n)]
 | [],ns,h=>by
  simp only[wy,bc]at h
  subst h
  exact⟨rfl,λj n h=>by simp at h⟩
 |r::rs,ns,h=>by
  simp only[wy,cm,bc]at h
  obtain⟨n,h1,ns',h2,rfl⟩:=h
  obtain⟨g1,g2⟩:=O5 h2
  refine⟨by simp[g1],λj m hj=>?_⟩
  cases j with
  |zero=>
   simp only[List.getElem?_cons_zero,bc]at hj⊢
   subst hj
   unfold OO at h1
   split at h1
   ·cases h1;rfl
   ·cases h1
  |succ j=>simpa using g2 j m (by simpa using hj)
theorem ab_{ω:Nat->Option Lb}{xs:List (List T)}{v:Value}{ns:List Int}(h:eB ω w (.l xs) v)(hb:wy xs=some ns):(Conv.bytesToString v).run P w=.ok (.string (yK ns)) w:=by
 obtain⟨hlen,bq⟩:=O5 hb
 rw[<-ab9]
 cases h with
 |nil=>
  have:ns=[]:=List.eq_nil_of_length_eq_zero hlen
  subst this
  rename_i a0 cap
  cases a0 with
  |none=>simp[Conv.bytesToString,Sem.run_pure]
  |some b=>exact run_bytesToString w b 0 cap [] (run_loadCells_list w b [] λj v hj=>by simp at hj)
 |l hw hc hn a_ h1 h2=>
  rename_i b off wd cap cv
  refine run_bytesToString w _ _ _ ns ?_
  rw[<-hlen,<-List.length_map (f:=Value.int .u8)]
  refine run_loadCells_list w _ _ λj v hj=>?_
  rw[List.getElem?_map,Option.map_eq_some_iff]at hj
  obtain⟨n,hj,rfl⟩:=hj
  have hx:=bq j n hj
  have mz:wd=1:=by
   have:=hw _ (List.mem_of_getElem? hx)
   simpa using this.symm
  subst mz
  have h3:dr xs j 0=some (.c (.int .u8 n)):=by simp[dr,hx]
  have h5:=h1 j 0 _ h3
  rw[(h2 j 0 _ h3).scalar.1]at h5
  rw[Addr.add_lit,show off+j=off+(j*1+0) by omega]
  exact h5
theorem ab'(dC:dU P cx)(h:Rel M B d up s ρ G a w)(hn:∀n,o.dst=some n->n<a.tmps.size){t1 t2:TypeId}{x:Operand}(ho:o.op=.convert t1 t2 x)
  (hk:iy cx cw eW d o oi ⟨s.only R,[],ct,[]⟩=some k')(hd:k'.bm S ρ):bH P M B d up ρ a w s o k'.w Q∧k'.ct.i=ct.i:=by
 have hw:=db.start h R ct
 simp only[iy,ho,cm]at hk
 obtain⟨si,O6,ti,fj,⟨k1,y⟩,h1,hk⟩:=hk
 split at hk
 ·rename_i kk z hz
  cases hb:(Nat.beq ti.kd 1&&Nat.beq si.kd 1)with
  |false=>rw[hb]at hk;cases hk
  |true=>
   rw[hb]at hk
   simp only[cond_true,bc]at hk
   subst hk
   rw[bA]at hb
   have wR:=(dC.ty _ _ fj).ik (du hb.1) kk z hz
   obtain⟨k0,Nt⟩:=(dC.ty _ _ O6).it (du hb.2)
   refine zf h hn hw h1 (hw.gX x).1 hd λt r lQ hr=>?_
   cases t with
   |l _=>simp[Prim.ev]at hr
   |c u=>
    obtain⟨e,_⟩:=lQ.scalar
    cases u<;>simp only[Prim.ev,bc]at hr<;>try cases hr
    rename_i k3 n lR
    refine⟨_,rfl,rfl,?_⟩
    unfold execOp;rw[ho]
    show Sem.run P (do let v <-convert t1 t2 (a.eval x);pure (Next.value v)) w=_
    rw[e,Sem.run_bind]
    have:(convert t1 t2 (.int k3 n)).run P w=.ok (.int kk (kk.wrap n)) w:=by
     unfold convert
     simp only[Sem.run_bind,run_underlying Nt,run_underlying wR,Result.andThen_ok]
     rfl
    rw[this];rfl
 ·rename_i z hz
  cases hb:(Nat.beq ti.kd 2&&Nat.beq si.kd 3)with
  |false=>rw[hb]at hk;cases hk
  |true=>
   rw[hb]at hk
   simp only[cond_true,cm]at hk
   obtain⟨te,nZ,hk⟩:=hk
   split at hk
   ·rename_i z2 rP
    cases nh:Nat.beq te.kd 1 with
    |false=>rw[nh]at hk;cases hk
    |true=>
     rw[nh]at hk
     simp only[cond_true,bc]at hk
     subst hk
     rw[bA]at hb
     have Nt:=(dC.ty _ _ O6).sl (du hb.2)
     have wR:=(dC.ty _ _ fj).st (du hb.1)
     have hu3:=(dC.ty _ _ nZ).ik (du nh) .u8 z2 rP
     refine zf h hn hw h1 (hw.gX x).1 hd λt r lQ hr=>?_
     cases t with
     |c u=>simp[Prim.ev]at hr
     |l xs=>
      simp only[Prim.ev,cm,bc]at hr
      obtain⟨ns,hns,rfl⟩:=hr
      refine⟨_,rfl,rfl,?_⟩
      unfold execOp;rw[ho]
      show Sem.run P (do let v <-convert t1 t2 (a.eval x);pure (Next.value v)) w=_
      rw[Sem.run_bind]
      obtain⟨b,c,e,_⟩:=lQ.rows
      have:(convert t1 t2 (a.eval x)).run P w=.ok (.string (yK ns)) w:=by
       have h0:=ab_ (P:=P) lQ hns
       rw[e]at h0⊢
       rw[run_convert_bytes_string w t1 t2 si.el b xs.length c Nt hu3 wR]
       exact h0
      rw[this];rfl
   ·cases hk
 ·cases hk
theorem HG{x:Sem Value}{v:Value}(h:x.run P w=.ok v w):(do let v <-x;pure (Next.value v):Sem Next).run P w=.ok (.value v) w:=by
 rw[Sem.run_bind,h];rfl
theorem Nu{c:Call}{b:Builtin}(ho:o.op=.call c)(hc:c.callee=.builtin b){r:Result Next}
  (h:(builtin b c.argTypes o.type (c.args.map λ | .const _=>true|_=>false) (c.args.map a.eval)).run P w=r):(execOp a.eval o).run P w=r:=by
 unfold execOp
 rw[ho]
 show Sem.run P (do let d <-resolve a.eval c o.type;invoke d.target d.args) w=r
 simp only[resolve,hc]
 exact h
theorem acb(h:Rel M B d up s ρ G a w)(hn:∀n,o.dst=some n->n<a.tmps.size)(dC:dU P cx){c:Call}{x:Operand}(ho:o.op=.call c)(hc:c.callee=.builtin .len)(eC:c.args.toList=[x])
  {ti:TI}(ht:(c.argTypes[0]?).bind cx.ty=some ti)(oz:ti.kd=3){k k1:Wk}{G1:Gh}{y:Lf}(hw:db M B d up ρ G a w k G1)
  (h1:k.one (bY d k.get x)=some (k1,y))(hd:(bP d o (k1.em .len [y]).1 (.v false [.p (k1.em .len [y]).2])).bm S ρ):
  bH P M B d up ρ a w s o (bP d o (k1.em .len [y]).1 (.v false [.p (k1.em .len [y]).2])).w Q∧(bP d o (k1.em .len [y]).1 (.v false [.p (k1.em .len [y]).2])).ct.i=k.ct.i:=by
 refine zf h hn hw h1 (hw.gX x).1 hd λt r lQ hr=>?_
 have hA:c.args=#[x]:=Array.ext' eC
 cases BB:c.argTypes[0]? with
 |none=>simp[BB]at ht
 |some tt=>
  have hT:=dC.ty tt ti (by simpa[BB]using ht)
  have hu:=hT.sl oz
  cases t with
  |l xs=>
   obtain⟨b,cap,e,_⟩:=lQ.rows
   simp only[Prim.ev,bc]at hr
   subst hr
   refine⟨_,rfl,rfl,Nu ho hc ?_⟩
   rw[hA]
   refine HG ?_
   simp[e,Builtin.len_,BB,run_underlying hu,goInt]
  |c v=>simp[Prim.ev]at hr
theorem acd(h:Rel M B d up s ρ G a w)(hn:∀n,o.dst=some n->n<a.tmps.size)(dC:dU P cx){c:Call}{x:Operand}(ho:o.op=.call c)(hc:c.callee=.builtin .len)(eC:c.args.toList=[x])
  {ti:TI}(ht:(c.argTypes[0]?).bind cx.ty=some ti)(oz:ti.kd=2){k k1:Wk}{G1:Gh}{y:Lf}(hw:db M B d up ρ G a w k G1)
  (h1:k.one (bY d k.get x)=some (k1,y))(hd:(bP d o (k1.em .lens [y]).1 (.v false [.p (k1.em .lens [y]).2])).bm S ρ):
  bH P M B d up ρ a w s o (bP d o (k1.em .lens [y]).1 (.v false [.p (k1.em .lens [y]).2])).w Q∧(bP d o (k1.em .lens [y]).1 (.v false [.p (k1.em .lens [y]).2])).ct.i=k.ct.i:=by
 refine zf h hn hw h1 (hw.gX x).1 hd λt r lQ hr=>?_
 have hA:c.args=#[x]:=Array.ext' eC
 cases BB:c.argTypes[0]? with
 |none=>simp[BB]at ht
 |some tt=>
  have hT:=dC.ty tt ti (by simpa[BB]using ht)
  have hu:=hT.st oz
  cases t with
  |l xs=>simp[Prim.ev]at hr
  |c v=>
   obtain⟨e,hs⟩:=lQ.scalar
   cases v with
   |string str=>
    simp only[Prim.ev,bc]at hr
    subst hr
    refine⟨_,rfl,rfl,Nu ho hc ?_⟩
    rw[hA]
    refine HG ?_
    simp[e,Builtin.len_,BB,run_underlying hu,goInt]
   |_=>simp[Prim.ev]at hr
theorem O7(h:Rel M B d up s ρ G a w)(hn:∀n,o.dst=some n->n<a.tmps.size){c:Call}{x x':Operand}(ho:o.op=.call c)(eC:c.args.toList=[x,x'])
  {p:Prim}(hc:c.callee=.builtin .max∧p=.mx∨c.callee=.builtin .min∧p=.mn){k k1 k2:Wk}{G1:Gh}{y y':Lf}(hw:db M B d up ρ G a w k G1)
  (h1:k.one (bY d k.get x)=some (k1,y))(h2:k1.one (bY d k.get x')=some (k2,y'))(hd:(bP d o (k2.em p [y,y']).1 (.v false [.p (k2.em p [y,y']).2])).bm S ρ):
  bH P M B d up ρ a w s o (bP d o (k2.em p [y,y']).1 (.v false [.p (k2.em p [y,y']).2])).w Q∧(bP d o (k2.em p [y,y']).1 (.v false [.p (k2.em p [y,y']).2])).ct.i=k.ct.i:=by
 refine O4 h hn hw h1 h2 (hw.gX x).1 (hw.gX x').1 hd λt t' r lQ l_ hr=>?_
 have hA:c.args=#[x,x']:=Array.ext' eC
 cases t with
 |l _=>rcases hc with⟨_,rfl⟩|⟨_,rfl⟩<;>simp[Prim.ev]at hr
 |c u=>
  cases t' with
  |l _=>rcases hc with⟨_,rfl⟩|⟨_,rfl⟩<;>cases u<;>simp[Prim.ev]at hr
  |c u'=>
   obtain⟨e,_⟩:=lQ.scalar
   obtain⟨e',_⟩:=l_.scalar
   cases u<;>cases u'<;>rcases hc with⟨hc,rfl⟩|⟨hc,rfl⟩<;>simp only[Prim.ev,bc]at hr<;>try cases hr
   ·exact⟨_,rfl,rfl,Nu ho hc (by rw[hA];simp[builtin,Builtin.max_,Builtin.max2,e,e'])⟩
   ·exact⟨_,rfl,rfl,Nu ho hc (by rw[hA];simp[builtin,Builtin.min_,Builtin.min2,e,e'])⟩
theorem BC{x:Sem Value}{v:Value}(he:execOp a.eval o=(do let v <-x;pure (Next.value v)))(h:x.run P w=.ok v w):(execOp a.eval o).run P w=.ok (.value v) w:=by
 rw[he];exact HG h
theorem ace(h:Rel M B d up s ρ G a w)(hn:∀n,o.dst=some n->n<a.tmps.size){x x':Operand}{t:TypeId}(ho:o.op=.index t x x')(dC:dU P cx){ti:TI}(ht:cx.ty t=some ti)(oz:ti.kd=2)
  {k k1 k2:Wk}{G1:Gh}{y y':Lf}(hw:db M B d up ρ G a w k G1)
  (h1:k.one (bY d k.get x)=some (k1,y))(h2:k1.one (bY d k.get x')=some (k2,y'))(hd:(bP d o (k2.em .idx [y,y']).1 (.v false [.p (k2.em .idx [y,y']).2])).bm S ρ):
  bH P M B d up ρ a w s o (bP d o (k2.em .idx [y,y']).1 (.v false [.p (k2.em .idx [y,y']).2])).w Q∧(bP d o (k2.em .idx [y,y']).1 (.v false [.p (k2.em .idx [y,y']).2])).ct.i=k.ct.i:=by
 refine O4 h hn hw h1 h2 (hw.gX x).1 (hw.gX x').1 hd λt1 t2 r lQ l_ hr=>?_
 have hu:=(dC.ty _ _ ht).st oz
 cases t1 with
 |l _=>cases t2<;>simp[Prim.ev]at hr
 |c u=>
  cases t2 with
  |l _=>cases u<;>simp[Prim.ev]at hr
  |c u'=>
   obtain⟨e,_⟩:=lQ.scalar
   obtain⟨e',_⟩:=l_.scalar
   cases u with
   |string str=>
    cases u' with
    |int kk n=>
     simp only[Prim.ev]at hr
     split at hr
     ·rename_i h0
      split at hr
      ·rename_i a_
       simp only[bc]at hr
       subst hr
       refine⟨_,rfl,rfl,BC (x:=Instr.index t (a.eval x) (a.eval x')) (by unfold execOp;rw[ho]) ?_⟩
       have hg:str[n.toNat]?=some (str.get n.toNat a_):=by
        simp[getElem?_pos,a_];rfl
       simp[Instr.index,e,e',asIntOf,run_underlying hu,h0,hg]
      ·cases hr
     ·cases hr
    |_=>simp[Prim.ev]at hr
   |_=>cases u'<;>simp[Prim.ev]at hr
theorem acf(h:Rel M B d up s ρ G a w)(hn:∀n,o.dst=some n->n<a.tmps.size){x:Operand}(ho:o.op=.nilCheck x)
  (hk:iy cx cw eW d o oi ⟨s.only R,[],ct,[]⟩=some k'):bH P M B d up ρ a w s o k'.w Q∧k'.ct.i=ct.i:=by
 have hw:=db.start h R ct
 obtain⟨hr,hm⟩:=hw.gX x
 have key:∀(v:SV) (ad:Addr),bY d (Wk.get ⟨s.only R,[],ct,[]⟩) x=v->a.eval x=.pointer (some ad)->some (bP d o ⟨s.only R,[],ct,[]⟩ v)=some k'->bH P M B d up ρ a w s o k'.w Q∧k'.ct.i=ct.i:=by
  intro v ad hv he hk
  cases hk
  refine⟨qQ h hw hn (v:=.pointer (some ad)) ?_ (by rw[<-he,<-hv];exact hr) (by rw[<-hv];exact hm) Q,by rw[mw]⟩
  unfold execOp
  rw[ho]
  show Sem.run P (match a.eval x with| .pointer none| .nilIface| .nilFunc=>runtimePanic .nilDeref| .func (.method name) first captured=>_|x=>pure (Next.value x)) w=_
  rw[he];rfl
 simp only[iy,ho]at hk
 split at hk
 ·rename_i bx off hv
  rw[hv]at hr
  exact key _ _ hv hr hk
 ·rename_i id q ix wd off hv
  rw[hv]at hr
  obtain⟨p,b,n,cap,i,_,_,_,_,he⟩:=hr
  exact key _ _ hv he hk
 ·rename_i s' ix wd off hv
  rw[hv]at hr
  obtain⟨xs,i,r,b,base,_,_,_,he,_⟩:=hr
  exact key _ _ hv he hk
 ·cases hk
theorem acg(h:Rel M B d up s ρ G a w)(hn:∀n,o.dst=some n->n<a.tmps.size){x:Operand}{i:Nat}(ho:o.op=.extract x i)
  (hk:iy cx cw eW d o oi ⟨s.only R,[],ct,[]⟩=some k'):bH P M B d up ρ a w s o k'.w Q∧k'.ct.i=ct.i:=by
 have hw:=db.start h R ct
 obtain⟨hr,hm⟩:=hw.gX x
 simp only[iy,ho]at hk
 split at hk
 ·rename_i vs hv
  rw[hv]at hr hm
  simp only[cm,bc]at hk
  obtain⟨u,hu,hk⟩:=hk
  have cJ:bP d o ⟨s.only R,[],ct,[]⟩ (.v u.1 u.2)=k':=hk
  subst cJ
  obtain⟨us,he,oA⟩:=hr
  have main:∀(vs:List (Bool×List Ce)) (us:List Value) (i:Nat) (u:Bool×List Ce),fX G w ρ vs us->vs[i]?=some u->
    ∃v,us[i]?=some v∧eZ G w ρ u.1 u.2 v∧∀j∈dt u.2,j∈qM vs:=by
   intro vs
   induction vs with
   |nil=>intro us i u _ hi;simp at hi
   |cons y vs ih=>
    intro us i u hr hi
    cases us with
    |nil=>exact hr.elim
    |cons z us=>
     cases i with
     |zero=>simp at hi;subst hi;exact⟨z,rfl,hr.1,λj hj=>by simp[qM,hj]⟩
     |succ i=>
      obtain⟨v,h1,h2,h3⟩:=ih us i u hr.2 (by simpa using hi)
      exact⟨v,by simpa using h1,h2,λj hj=>by simp[qM,h3 j hj]⟩
  obtain⟨v,h1,h2,h3⟩:=main vs us i u oA hu
  refine⟨qQ h hw hn (v:=v) (x:=.v u.1 u.2) (BC (x:=Instr.extract (a.eval x) i) (by unfold execOp;rw[ho]) ?_) h2 (λj hj=>hm j (h3 j hj)) Q,by rw[mw]⟩
  rw[he]
  simp[Instr.extract,h1]
 ·cases hk
theorem ach(dC:dU P cx)(h:Rel M B d up s ρ G a w)(hn:∀n,o.dst=some n->n<a.tmps.size){x:Operand}{t f:Nat}(ho:o.op=.fieldAddr t x f)
  (hk:iy cx cw eW d o oi ⟨s.only R,[],ct,[]⟩=some k'):bH P M B d up ρ a w s o k'.w Q∧k'.ct.i=ct.i:=by
 have hw:=db.start h R ct
 obtain⟨hr,hm⟩:=hw.gX x
 simp only[iy,ho,cm,bc]at hk
 obtain⟨v,hv,hk⟩:=hk
 have cJ:bP d o ⟨s.only R,[],ct,[]⟩ v=k':=hk
 subst cJ
 have run:∀(ti:TI) (of:Nat×Nat) (b oo:Nat),cx.ty t=some ti->ti.fs[f]?=some of->a.eval x=.pointer (some ⟨b,oo,none⟩)->
   (execOp a.eval o).run P w=.ok (.value (.pointer (some ⟨b,oo+of.1,none⟩))) w:=by
  intro ti of b oo fj hf he
  obtain⟨fs,xZ,i,h1,h2,h3,h4,h5,_⟩:=(dC.ty _ _ fj).fs f of hf
  refine BC (x:=Instr.fieldAt t (a.eval x) f) (by unfold execOp;rw[ho]) ?_
  simp[Instr.fieldAt,run_underlying h1,h2,he,Instr.sureAddr,fieldPlace,sizeOf,typeInfo,h4,h5,h3,Addr.add_lit]
 unfold fieldAt at hv
 split at hv
 ·rename_i bx off dN
  rw[dN]at hr hm
  simp only[cm,bc]at hv
  obtain⟨ti,fj,of,hf,rfl⟩:=hv
  exact⟨qQ h hw hn (x:=.pt bx (off+of.1)) (run ti of _ _ fj hf hr) rfl hm Q,by rw[mw]⟩
 ·rename_i id q ix wd off dN
  rw[dN]at hr hm
  simp only[cm,bc]at hv
  obtain⟨ti,fj,of,hf,rfl⟩:=hv
  obtain⟨p,b,n,cap,i,h1,h2,h3,h4,he⟩:=hr
  exact⟨qQ h hw hn (x:=.ep id q ix wd (off+of.1)) (run ti of _ _ fj hf he) ⟨p,b,n,cap,i,h1,h2,h3,h4,by rw[Nat.add_assoc]⟩ hm Q,by rw[mw]⟩
 ·rename_i s' ix wd off dN
  rw[dN]at hr hm
  simp only[cm,bc]at hv
  obtain⟨ti,fj,of,hf,rfl⟩:=hv
  obtain⟨xs,i,r,b,base,h1,h2,h3,he,h5⟩:=hr
  exact⟨qQ h hw hn (x:=.fp s' ix wd (off+of.1)) (run ti of _ _ fj hf he) ⟨xs,i,r,b,base,h1,h2,h3,by rw[Nat.add_assoc],h5⟩ hm Q,by rw[mw]⟩
 ·cases hv
theorem eB.one{ω:Nat->Option Lb}{t:T}{v:Value}(h:eB ω w t v):v.oneCell'=true:=by
 cases h with
 |c h=>cases v<;>simp_all[jH,Value.oneCell']
 |nil=>rfl
 |l=>rfl
theorem fH.one{e:Ce}{v:Value}(h:fH G w ρ e v):v.oneCell'=true:=by
 cases e with
 |p x=>obtain⟨t,_,h⟩:=h;exact h.one
 |o id q=>obtain⟨p,_,rfl⟩:=h;obtain⟨x,n,c,h⟩:=G.hs id p;rw[h];rfl
 |n=>cases h;rfl
 |d=>exact h
theorem aci{v:Value}(h:v.oneCell'=true):∀x,v≠.agg x:=λx e=>by subst e;cases h
theorem aS.length:∀{cs:List Ce} {vs:List Value},aS G w ρ cs vs->cs.length=vs.length
 | [],[],_=>rfl
 | [],_::_,h=>h.elim
 |_::_,[],h=>h.elim
 |_::cs,_::vs,h=>by simp[aS.length h.2]
theorem aS.drop:∀{cs:List Ce} {vs:List Value} (n:Nat),aS G w ρ cs vs->aS G w ρ (cs.drop n) (vs.drop n)
 |_,_,0,h=>h
 | [],[],n+1,_=>trivial
 | [],_::_,_,h=>h.elim
 |_::_,[],_,h=>h.elim
 |_::cs,_::vs,n+1,h=>aS.drop n h.2
theorem aS.take:∀{cs:List Ce} {vs:List Value} (n:Nat),aS G w ρ cs vs->aS G w ρ (cs.take n) (vs.take n)
 |_,_,0,h=>trivial
 | [],[],n+1,_=>trivial
 | [],_::_,_,h=>h.elim
 |_::_,[],_,h=>h.elim
 |_::cs,_::vs,n+1,h=>⟨h.1,aS.take n h.2⟩
theorem aS.one:∀{cs:List Ce} {vs:List Value},aS G w ρ cs vs->∀v∈vs,v.oneCell'=true
 | [],[],_,v,hv=>by cases hv
 | [],_::_,h,_,_=>h.elim
 |_::_,[],h,_,_=>h.elim
 |_::cs,_::vs,h,v,hv=>by
  cases hv with
  |head=>exact h.1.one
  |tail _ hv=>exact aS.one h.2 v hv
theorem HH(cs:List Ce)(n:Nat):∀i∈dt (cs.drop n),i∈dt cs:=by
 induction cs generalizing n with
 |nil=>intro i hi;simp at hi;exact hi
 |cons c cs ih=>
  intro i hi
  cases n with
  |zero=>exact hi
  |succ n=>rw[wO];exact List.mem_append_right _ (ih n i (by simpa using hi))
theorem HI(cs:List Ce)(n:Nat):∀i∈dt (cs.take n),i∈dt cs:=by
 induction cs generalizing n with
 |nil=>intro i hi;simp at hi;exact hi
 |cons c cs ih=>
  intro i hi
  cases n with
  |zero=>simp[dt]at hi
  |succ n=>
   rw[List.take_succ_cons,wO]at hi
   rw[wO]
   rcases List.mem_append.1 hi with hi|hi
   ·exact List.mem_append_left _ hi
   ·exact List.mem_append_right _ (ih n i hi)
theorem O8{t:Nat}{ti:TI}(hT:sF P t ti){b off:Nat}{vs:List Value}(hl:vs.length=ti.sz)
  (hc:∀j v,vs[j]?=some v->w.cell? ⟨b,off+j,none⟩=some v):
  (Instr.loadAt t (.pointer (some ⟨b,off,none⟩))).run P w=.ok (if ti.ag then .agg vs.toArray else vs.getD 0 undef) w:=by
 obtain⟨i,z,hi,hs,_,_,_⟩:=hT.info
 obtain⟨u,hu,m0,wS⟩:=hT.ag
 have qR:(loadCells ⟨b,off,none⟩ vs.length).run P w=.ok vs.toArray w:=
  run_loadCells_list w _ vs λj v hj=>by rw[Addr.add_lit];exact hc j v hj
 cases hb:ti.ag with
 |true=>
  obtain⟨fs,rfl⟩:=m0.1 hb
  simp[Instr.loadAt,Instr.sureAddr,loadVar,isAgg,run_underlying hu,sizeOf,typeInfo,hi,hs,<-hl,qR]
 |false=>
  have h1:=hT.one hb
  obtain⟨v,rfl⟩:∃v,vs=[v]:=by
   cases vs with
   |nil=>simp at hl;omega
   |cons v vs=>cases vs with
    |nil=>exact⟨v,rfl⟩
    |cons _ _=>simp at hl;omega
  have F3:=hc 0 v rfl
  have CV:(isAgg t).run P w=.ok false w:=by
   simp only[isAgg,Sem.run_bind,run_underlying hu,Result.andThen_ok]
   cases u with
   |struct fs=>have:=m0.2 ⟨fs,rfl⟩;rw[hb]at this;cases this
   |array n e=>exact absurd rfl (wS n e)
   |_=>rfl
  simp only[Nat.add_zero]at F3
  simp[Instr.loadAt,Instr.sureAddr,loadVar,CV,F3]
theorem zg{ti:TI}{t:Nat}(hT:sF P t ti){G1:Gh}{cs:List Ce}{vs:List Value}(h:aS G1 w ρ cs vs)(hl:vs.length=ti.sz):
  cz G1 w ρ (.v ti.ag cs) (if ti.ag then .agg vs.toArray else vs.getD 0 undef):=by
 cases hb:ti.ag with
 |true=>exact⟨vs,rfl,h⟩
 |false=>
  have h1:=hT.one hb
  cases vs with
  |nil=>simp at hl;omega
  |cons v vs=>cases vs with
   |cons _ _=>simp at hl;omega
   |nil=>cases cs with
    |nil=>exact h.elim
    |cons c cs=>cases cs with
     |cons _ _=>exact h.2.elim
     |nil=>exact⟨c,rfl,h.1,aci h.1.one⟩
theorem O9{x ix:Lf}{xs:List (List T)}{i:Nat}(hx:x.fq ρ=some (.l xs))(hi:ll ρ ix=some i):tM (x.ev ρ) (ix.ev ρ)=xs[i]?:=by
 obtain⟨k,hk⟩:=Ns hi
 rw[Lf.bG hx,hk,zb]
theorem Wk.oU:∀(n:Nat) (k:Wk) (sc:Bool) (x ix:Lf) (wd off:Nat),k.eO (k.row sc x ix wd off n).1
 |0,k,_,_,_,_,_=>.refl k
 |n+1,k,sc,x,ix,wd,off=>by
  simp only[Wk.row]
  exact(Wk.bB k _ _).trans (Wk.oU n _ sc x ix wd (off+1))
theorem Wk.qS:∀(n:Nat) (k:Wk) (sc:Bool) (x ix:Lf) (wd off:Nat),(k.row sc x ix wd off n).1.bm S ρ->k.bm S ρ
 |0,_,_,_,_,_,_,h=>h
 |n+1,k,sc,x,ix,wd,off,h=>by
  simp only[Wk.row]at h
  exact(Wk.bK (Wk.qS n _ sc x ix wd (off+1) h)).1
theorem HJ{x ix:Lf}{xs:List (List T)}{i wd off:Nat}{sc:Bool}{t:T}(hx:x.fq ρ=some (.l xs))(hi:ll ρ ix=some i)
  (h:Prim.ev (bif sc then .bn wd off else .cell wd off) [x.ev ρ,ix.ev ρ]=some t):
  ∃r,xs[i]?=some r∧r.length=wd∧r[off]?=some t∧(sc=true->eh t=true):=by
 cases sc with
 |false=>
  simp only[cond_false,Prim.ev,O9 hx hi]at h
  cases hr:xs[i]? with
  |none=>simp[hr]at h
  |some r=>
   simp only[hr,Option.bind_some]at h
   split at h
   ·rename_i hl;exact⟨r,rfl,hl,h,λhf=>by cases hf⟩
   ·cases h
 |true=>
  simp only[cond_true,Prim.ev,O9 hx hi]at h
  cases hr:xs[i]? with
  |none=>simp[hr]at h
  |some r=>
   simp only[hr,Option.bind_some]at h
   split at h
   ·rename_i hl
    cases ho:r[off]? with
    |none=>simp[ho]at h
    |some t'=>
     simp only[ho,Option.bind_some]at h
     split at h
     ·rename_i hs;cases h;exact⟨r,rfl,hl,ho,λ_=>hs⟩
     ·cases h
   ·cases h
theorem Wk.vH{G1:Gh}{x ix:Lf}{xs:List (List T)}{i wd:Nat}{sc:Bool}(hx:x.fq ρ=some (.l xs))(hi:ll ρ ix=some i){b base:Nat}
  (fP:∀r,xs[i]?=some r->r.length=wd->∀j t,r[j]?=some t->(sc=true->eh t=true)->∃u,w.cell? ⟨b,base+j,none⟩=some u∧eB G1.q w t u):
  ∀(n:Nat) (k:Wk) (off:Nat),(k.row sc x ix wd off n).1.bm S ρ->
   ∃vs:List Value,vs.length=n∧(∀j v,vs[j]?=some v->w.cell? ⟨b,base+off+j,none⟩=some v)∧aS G1 w ρ (k.row sc x ix wd off n).2 vs∧dt (k.row sc x ix wd off n).2=[]
 |0,k,off,_=>⟨[],rfl,λj v hj=>by simp at hj,trivial,rfl⟩
 |n+1,k,off,hd=>by
  simp only[Wk.row]at hd⊢
  obtain⟨_,t,ht,hy⟩:=Wk.bK (Wk.qS n _ sc x ix wd (off+1) hd)
  obtain⟨r,h1,h2,h3,h4⟩:=HJ hx hi ht
  obtain⟨u,h5,h6⟩:=fP r h1 h2 off t h3 h4
  obtain⟨vs,g1,g2,g3,g4⟩:=Wk.vH hx hi fP n _ (off+1) hd
  refine⟨u::vs,by simp[g1],λj v hj=>?_,⟨⟨t,hy,h6⟩,g3⟩,by simp[dt,g4]⟩
  cases j with
  |zero=>simp at hj;subst hj;simpa using h5
  |succ j=>
   have:=g2 j v (by simpa using hj)
   rwa[show base+(off+1)+j=base+off+(j+1) by omega]at this
theorem O_{ix:Lf}{wd off i:Nat}(hi:ll ρ ix=some i):∀{q:mq} {p:List (Nat×Nat)},fW ρ q=some p->fW ρ (q++[(ix,wd,off)])=some (p++[(i,off)])
 | [],p,h=>by simp only[fW]at h;cases h;simp[fW,hi]
 |(z1,z2,z3)::q,p,h=>by
  simp only[fW]at h
  cases kF:ll ρ z1 with
  |none=>simp[kF]at h
  |some i1=>
   cases my:fW ρ q with
   |none=>simp[kF,my]at h
   |some p2=>
    simp[kF,my]at h
    subst h
    simp[fW,kF,O_ hi my]
theorem eg.row{G1:Gh}{id:Nat}{dp:Bool}{p:List (Nat×Nat)}{xs:List (List T)}{b n cap i wd:Nat}{r:List T}(h:eg G1 w id dp p (.l xs))
  (hH:G1.H id p=.slice (some ⟨b,0,none⟩) n cap)(hr:xs[i]?=some r)(hl:r.length=wd)(j:Nat)(t:T)(ht:r[j]?=some t):
  ∃v,w.cell? ⟨b,i*wd+j,none⟩=some v∧(∀u,t=.c u->v=u∧jH u=true)∧(∀ys,t=.l ys->dp=false->eB G1.q w t v)∧(∀ys,t=.l ys->dp=true->v=G1.H id (p++[(i,j)])):=by
 cases h with
 |nil h=>simp at hr
 | @l _ _ _ b' CW qT bE elem cv g1 g2 g3 g4 g5 g6 g7 g8 g9 rQ zh=>
  rw[hH]at g1
  cases g1
  have hw:CW=wd:=by rw[<-hl,g6 r (List.mem_of_getElem? hr)]
  subst hw
  have bq:dr xs i j=some t:=by simp[dr,hr,ht]
  refine⟨cv i j,by rw[uG g4];exact g7 i j t bq,λu hu=>?_,λys hy hd=>?_,λys hy hd=>?_⟩
  ·subst hu;exact g8 i j u bq
  ·subst hy;exact g9 i j ys bq hd
  ·subst hy;exact rQ i j ys bq hd
theorem uJ{t:T}(h:eh t=true):∃v,t=.c v:=by
 cases t with
 |c v=>exact⟨v,rfl⟩
 |l _=>simp[eh]at h
theorem eB.row{ω:Nat->Option Lb}{xs:List (List T)}{b o n cap i wd:Nat}{r:List T}(h:eB ω w (.l xs) (.slice (some ⟨b,o,none⟩) n cap))
  (hr:xs[i]?=some r)(hl:r.length=wd):ω b=none∧b<w.heap.size∧∀(j:Nat) (t:T),r[j]?=some t->∃v,w.cell? ⟨b,o+i*wd+j,none⟩=some v∧eB ω w t v:=by
 generalize hv:Value.slice (some (⟨b,o,none⟩:Addr)) n cap=v at h
 cases h with
 |nil=>simp at hr
 | @l _ b' acj CW qT cv h1 h2 h3 h4 h5 h6=>
  cases hv
  have hw:CW=wd:=by rw[<-hl,h1 r (List.mem_of_getElem? hr)]
  subst hw
  refine⟨h3,h4,λj t ht=>?_⟩
  have bq:dr xs i j=some t:=by simp[dr,hr,ht]
  exact⟨cv i j,by rw[Nat.add_assoc];exact h5 i j t bq,h6 i j t bq⟩
theorem Wk.ln:∀(zs:List Ce) (k:Wk) (y ix:Lf) (id:Nat) (q:mq) (wd off:Nat),k.eO (k.ot y ix id q wd off zs).1
 | [],k,_,_,_,_,_,_=>.refl k
 |z::zs,k,y,ix,id,q,wd,off=>by
  unfold Wk.ot
  cases eX z with
  |true=>exact(Wk.bB k _ _).trans (Wk.ln zs _ y ix id q wd (off+1))
  |false=>exact(Wk.bB k _ _).trans (Wk.ln zs _ y ix id q wd (off+1))
theorem Wk.kO:∀(zs:List Ce) (k:Wk) (y ix:Lf) (id:Nat) (q:mq) (wd off:Nat),(k.ot y ix id q wd off zs).1.bm S ρ->k.bm S ρ
 | [],_,_,_,_,_,_,_,h=>h
 |z::zs,k,y,ix,id,q,wd,off,h=>by
  unfold Wk.ot at h
  cases hz:eX z with
  |true=>rw[hz]at h;exact(Wk.bK (Wk.kO zs _ y ix id q wd (off+1) h)).1
  |false=>rw[hz]at h;exact(Wk.bK (Wk.kO zs _ y ix id q wd (off+1) h)).1
theorem Wk.oV{G1:Gh}{y ix:Lf}{xs:List (List T)}{i wd id b base:Nat}{q:mq}{p:List (Nat×Nat)}(hx:y.fq ρ=some (.l xs))(hi:ll ρ ix=some i)(hp:fW ρ q=some p)(uK:id%2=1)
  (fP:∀r,xs[i]?=some r->r.length=wd->∀j t,r[j]?=some t->∃u,w.cell? ⟨b,base+j,none⟩=some u∧(∀v,t=.c v->u=v∧jH v=true)∧∀ys,t=.l ys->u=G1.H id (p++[(i,j)])):
  ∀(zs:List Ce) (k:Wk) (off:Nat),(k.ot y ix id q wd off zs).1.bm S ρ->
   ∃vs:List Value,vs.length=zs.length∧(∀j v,vs[j]?=some v->w.cell? ⟨b,base+off+j,none⟩=some v)∧aS G1 w ρ (k.ot y ix id q wd off zs).2 vs∧∀j∈dt (k.ot y ix id q wd off zs).2,j=id
 | [],k,off,_=>⟨[],rfl,λj v hj=>by simp at hj,trivial,λj hj=>by simp[Wk.ot,dt]at hj⟩
 |z::zs,k,off,hd=>by
  unfold Wk.ot at hd⊢
  cases hz:eX z with
  |true=>
   rw[hz]at hd
   simp only[cond_true]at hd⊢
   obtain⟨_,t,ht,_⟩:=Wk.bK (Wk.kO zs _ _ _ _ _ _ (off+1) hd)
   obtain⟨ys,rfl,bq,r,h1,h2⟩:=CS hx hi ht
   have h3:r[off]?=some (.l ys):=by simpa[dr,h1]using bq
   obtain⟨u,h5,_,h6⟩:=fP r h1 h2 off _ h3
   obtain⟨vs,g1,g2,g3,g4⟩:=Wk.oV hx hi hp uK fP zs _ (off+1) hd
   refine⟨u::vs,by simp[g1],λj v hj=>?_,⟨⟨_,abP (O_ hi hp) uK,h6 ys rfl⟩,g3⟩,λj hj=>?_⟩
   ·cases j with
    |zero=>simp at hj;subst hj;simpa using h5
    |succ j=>
     have:=g2 j v (by simpa using hj)
     rwa[show base+(off+1)+j=base+off+(j+1) by omega]at this
   ·simp only[dt,List.mem_cons]at hj
    rcases hj with hj|hj
    ·exact hj
    ·exact g4 j hj
  |false=>
   rw[hz]at hd
   simp only[cond_false]at hd⊢
   obtain⟨_,t,ht,hy⟩:=Wk.bK (Wk.kO zs _ _ _ _ _ _ (off+1) hd)
   obtain⟨r,h1,h2,h3,h4⟩:=HJ (sc:=true) hx hi ht
   obtain⟨c,rfl⟩:=uJ (h4 rfl)
   obtain⟨u,h5,h6,_⟩:=fP r h1 h2 off _ h3
   obtain⟨rfl,hs⟩:=h6 c rfl
   obtain⟨vs,g1,g2,g3,g4⟩:=Wk.oV hx hi hp uK fP zs _ (off+1) hd
   refine⟨u::vs,by simp[g1],λj v hj=>?_,⟨⟨.c u,hy,.c hs⟩,g3⟩,λj hj=>g4 j (by simpa[dt]using hj)⟩
   cases j with
   |zero=>simp at hj;subst hj;simpa using h5
   |succ j=>
    have:=g2 j v (by simpa using hj)
    rwa[show base+(off+1)+j=base+off+(j+1) by omega]at this
theorem ack(dC:dU P cx)(h:Rel M B d up s ρ G a w)(hn:∀n,o.dst=some n->n<a.tmps.size){x:Operand}{t:Nat}(ho:o.op=.load t x)
  (hk:∃k1 v,loadAt cx (cx.nest cw) ⟨s.only R,[],ct,[]⟩ t (bY d (Wk.get ⟨s.only R,[],ct,[]⟩) x)=some (k1,v)∧bP d o k1 v=k')(hd:k'.bm S ρ):bH P M B d up ρ a w s o k'.w Q∧k'.ct.i=ct.i:=by
 have hw:=db.start h R ct
 obtain⟨hr,hm⟩:=hw.gX x
 obtain⟨k1,v,hv,hk⟩:=hk
 have cJ:bP d o k1 v=k':=hk
 subst cJ
 have fi:=cF.1 hd
 have exe:∀{val:Value} {b off:Nat},a.eval x=.pointer (some ⟨b,off,none⟩)->(Instr.loadAt t (.pointer (some ⟨b,off,none⟩))).run P w=.ok val w->(execOp a.eval o).run P w=.ok (.value val) w:=by
  intro val b off he hl
  refine BC (x:=Instr.loadAt t (a.eval x)) (by unfold execOp;rw[ho]) ?_
  rw[he];exact hl
 have ql:∀{k0:Wk} {G1:Gh} {ti:TI} {y ix:Lf} {xs:List (List T)} {i wd off b base:Nat} {sc:Bool},cx.ty t=some ti->db M B d up ρ G a w k0 G1->k0.ct.i=ct.i->
   y.fq ρ=some (.l xs)->ll ρ ix=some i->a.eval x=.pointer (some ⟨b,base+off,none⟩)->
   (∀r,xs[i]?=some r->r.length=wd->∀j t,r[j]?=some t->(sc=true->eh t=true)->∃u,w.cell? ⟨b,base+j,none⟩=some u∧eB G1.q w t u)->
   (k0.row sc y ix wd off ti.sz).1=k1->SV.v ti.ag (k0.row sc y ix wd off ti.sz).2=v->bH P M B d up ρ a w s o (bP d o k1 v).w Q∧(bP d o k1 v).ct.i=ct.i:=by
  intro k0 G1 ti y ix xs i wd off b base sc fj tR jV hy hi he fP h1 h2
  subst h1 h2
  obtain⟨vs,g1,g2,g3,g4⟩:=Wk.vH (S:=S) hy hi fP ti.sz k0 off fi
  have hT:=dC.ty _ _ fj
  refine⟨qQ h (tR.same (Wk.oU _ _ _ _ _ _ _)) hn (exe he (O8 hT g1 g2)) (zg hT g3 g1) (λj hj=>by simp[cT,g4]at hj) Q,?_⟩
  rw[mw,(Wk.oU ti.sz k0 sc y ix wd off).i,jV]
 unfold loadAt at hv
 split at hv
 ·rename_i bx off dN
  rw[dN]at hr hm
  simp only[cm]at hv
  obtain⟨ti,fj,hv⟩:=hv
  split at hv
  ·rename_i ag cs tS
   cases hle:Nat.ble (off+ti.sz) cs.length with
   |false=>simp[hle]at hv
   |true=>
    simp only[hle,cond_true,bc,Prod.mk.injEq]at hv
    obtain⟨rfl,rfl⟩:=hv
    have hb:=hw.rel.bx bx
    rw[<-Wk.aM,tS]at hb
    obtain⟨_,bE,elem,hh,jW⟩:=hb
    have hT:=dC.ty _ _ fj
    have acm:=(jW.drop off).take ti.sz
    have hlen:((bE.toList.drop off).take ti.sz).length=ti.sz:=by
     have:=jW.length
     have:=Nat.le_of_ble_eq_true hle
     simp only[List.length_take,List.length_drop]
     omega
    refine⟨qQ h hw hn (exe hr (O8 hT hlen λj v hj=>?_)) (zg hT acm hlen) (λj hj=>?_) Q,by rw[mw]⟩
    ·rw[uG hh]
     rw[List.getElem?_take]at hj
     split at hj
     ·rw[List.getElem?_drop]at hj;simpa using hj
     ·cases hj
    ·have wT:=HH cs off j (HI _ _ j hj)
     refine hw.rel.fD (.x bx) j ?_
     rw[<-Wk.aM,tS];exact wT
  ·cases hv
 ·rename_i s' ix wd off dN
  rw[dN]at hr
  simp only[cm,bc,Prod.mk.injEq]at hv
  obtain⟨ti,fj,h1,h2⟩:=hv
  obtain⟨xs,i,r,b,base,e1,e2,e3,e4,e5⟩:=hr
  refine ql fj hw rfl e1 e2 e4 (λr' jc hl j t' ht _=>?_) h1 h2
  rw[e3]at jc
  cases jc
  exact(e5 hl).2.2 j t' ht
 ·rename_i id q ix wd off dN
  rw[dN]at hr
  simp only[cm]at hv
  obtain⟨ti,fj,hv⟩:=hv
  obtain⟨p,b,n,cap,i,e1,e2,e3,e4,e5⟩:=hr
  have dJ:=hw.obj id
  split at hv
  ·rename_i y hy
   rw[hy]at dJ
   obtain⟨tt,ht,bu⟩:=dJ
   have nj:∃ys,tt=.l ys:=by cases bu<;>exact⟨_,rfl⟩
   cases qm:(cx.nest cw&&ti.zero.any eX&&Nat.beq ti.zero.length ti.sz&&Nat.beq (id%2) 1)with
   |true=>
    simp only[qm,cond_true,bc,Prod.mk.injEq]at hv
    obtain⟨h1,h2⟩:=hv
    subst h1 h2
    have uK:id%2=1:=by
     simp only[bA]at qm
     exact du qm.2
    have pX:ti.zero.length=ti.sz:=by
     simp only[bA]at qm
     exact du qm.1.2
    have HK:=Wk.kO _ _ _ _ _ _ _ _ fi
    obtain⟨z,hz,ya,acn⟩:=Wk.gy q _ y HK ht (CN e1) (.inr nj)
    have zi:∃ys,z=.l ys:=by
     rcases acn with rfl|h'
     ·simp only[lO]at e1;cases e1;simp[gW]at hz;subst hz;exact nj
     ·exact h'
    obtain⟨zs,rfl⟩:=zi
    have jd:=eg.bD p bu hz ⟨zs,rfl⟩
    simp only[List.nil_append]at jd
    obtain⟨vs,g1,g2,g3,g4⟩:=Wk.oV (S:=S) (b:=b) (base:=i*wd) (wd:=wd) ya e3 (CN e1) uK (λr jc hl j t' jj=>by
     obtain⟨v',hc,ha,_,hb⟩:=jd.row e2 jc hl j t' jj
     exact⟨v',hc,ha,λys hy=>hb ys hy rfl⟩) ti.zero _ off fi
    have hT:=dC.ty _ _ fj
    refine⟨qQ h ((hw.same (Wk.eM q _ y)).same (Wk.ln _ _ _ _ _ _ _ _)) hn (exe e5 (O8 hT (by rw[g1,pX]) g2)) (zg hT g3 (by rw[g1,pX])) (λj hj=>?_) Q,?_⟩
    ·have:=g4 j (by simpa[cT]using hj)
     subst this
     rw[dN]at hm
     exact hm j (by simp[cT])
    ·rw[mw,(Wk.ln _ _ _ _ _ _ _ _).i,(Wk.eM q _ y).i]
   |false=>
    simp only[qm,cond_false]at hv
    cases hz:ti.zero.any eX with
    |true=>
     simp only[hz,cond_true]at hv
     split at hv
     ·cases jl:Nat.beq (id%2) 0 with
      |true=>
       simp only[jl,cond_true,bc,Prod.mk.injEq]at hv
       obtain⟨h1,h2⟩:=hv
       have aco:=du jl
       simp only[lO]at e1
       cases e1
       obtain⟨ys,rfl⟩:=nj
       refine ql fj hw rfl ht e3 e5 (λr jc hl j t' jj _=>?_) h1 h2
       obtain⟨v',hc,ha,_,hb⟩:=bu.row e2 jc hl j t' jj
       refine⟨v',hc,?_⟩
       cases t' with
       |c u=>obtain⟨rfl,hs⟩:=ha u rfl;exact .c hs
       |l zs=>
        rw[hb zs rfl rfl]
        have bq:dr ys i j=some (.l zs):=by simp[dr,jc,jj]
        have jd:=eg.bD [(i,j)] bu (by simp[gW,bq]) ⟨zs,rfl⟩
        exact jd.O0 (.inr ⟨aco,by simp⟩) rfl
      |false=>
      simp only[jl,cond_false]at hv
      simp only[cm,bc,Prod.mk.injEq]at hv
      obtain⟨k2,cJ,h1,h2⟩:=hv
      obtain⟨G2,F4,CP,hH,pY,oB,his⟩:=hw.flat cJ
      simp only[lO]at e1
      cases e1
      have O':=F4.obj id
      have Pb:k2.get (.o id)=.ob false y:=by
       unfold Wk.flat at cJ
       rw[hy]at cJ
       cases cJ
       simp[Wk.get,Wk.set,St.be]
      rw[Pb]at O'
      obtain⟨tt2,zj,oX⟩:=O'
      obtain⟨ys,rfl⟩:∃ys,tt2=.l ys:=by cases oX<;>exact⟨_,rfl⟩
      refine ql fj F4 (by rw[oB]) zj e3 e5 (λr jc hl j t' jj _=>?_) h1 h2
      obtain⟨v',hc,ha,hb,_⟩:=oX.row (by rw[hH];exact e2) jc hl j t' jj
      refine⟨v',hc,?_⟩
      cases t' with
      |c u=>obtain⟨rfl,hs⟩:=ha u rfl;exact .c hs
      |l zs=>exact hb zs rfl rfl
     ·cases hv
    |false=>
     simp only[hz,cond_false,bc,Prod.mk.injEq]at hv
     obtain⟨h1,h2⟩:=hv
     subst h1 h2
     have HK:=Wk.qS _ _ _ _ _ _ _ fi
     obtain⟨z,rP,ya,pX⟩:=Wk.gy q _ y HK ht (CN e1) (.inr nj)
     have zi:∃ys,z=.l ys:=by
      rcases pX with rfl|h'
      ·simp only[lO]at e1;cases e1;simp[gW]at rP;subst rP;exact nj
      ·exact h'
     obtain⟨zs,rfl⟩:=zi
     have jd:=eg.bD p bu rP ⟨zs,rfl⟩
     simp only[List.nil_append]at jd
     refine ql fj (hw.same (Wk.eM q _ y)) (by rw[(Wk.eM q _ y).i]) ya e3 e5 (λr jc hl j t' jj lR=>?_) rfl rfl
     obtain⟨v',hc,ha,_,_⟩:=jd.row e2 jc hl j t' jj
     obtain⟨u,rfl⟩:=uJ (lR rfl)
     obtain⟨rfl,hs⟩:=ha u rfl
     exact⟨_,hc,.c hs⟩
  ·rename_i y hy
   rw[hy]at dJ
   split at hv
   ·simp only[bc,Prod.mk.injEq]at hv
    obtain⟨h1,h2⟩:=hv
    obtain⟨tt,ht,bu⟩:=dJ
    obtain⟨ys,rfl⟩:∃ys,tt=.l ys:=by cases bu<;>exact⟨_,rfl⟩
    simp only[lO]at e1
    cases e1
    refine ql fj hw rfl ht e3 e5 (λr jc hl j t' jj _=>?_) h1 h2
    obtain⟨v',hc,ha,hb,_⟩:=bu.row e2 jc hl j t' jj
    refine⟨v',hc,?_⟩
    cases t' with
    |c u=>obtain⟨rfl,hs⟩:=ha u rfl;exact .c hs
    |l zs=>exact hb zs rfl rfl
   ·cases hv
  ·rename_i y hy
   rw[hy]at dJ
   split at hv
   ·simp only[bc,Prod.mk.injEq]at hv
    obtain⟨h1,h2⟩:=hv
    obtain⟨tt,ht,dK,_⟩:=dJ
    simp only[lO]at e1
    cases e1
    rw[e2]at dK
    obtain⟨ys,rfl⟩:∃ys,tt=.l ys:=by
     cases tt with
     |c v=>have:=dK.scalar;cases this.1▸this.2
     |l ys=>exact⟨ys,rfl⟩
    refine ql (b:=b) (base:=i*wd) fj hw rfl ht e3 e5 (λr jc hl j t' jj _=>?_) h1 h2
    obtain⟨v',hc,m4⟩:=(dK.row jc hl).2.2 j t' jj
    exact⟨v',by simpa using hc,m4⟩
   ·cases hv
  ·cases hv
 ·cases hv
theorem acp{x i:T}{r:T}(h:Prim.ev .de [x,i]=some r):∃xs kk n,x=.l xs∧i=.c (.int kk n)∧0<=n∧∃row,xs[n.toNat]?=some row:=by
 simp only[Prim.ev,tM,cm]at h
 obtain⟨row,⟨xs,hx,n,hn,hr⟩,_⟩:=h
 cases x with
 |c v=>simp[T.rows]at hx
 |l ys=>
  simp only[T.rows,bc]at hx
  subst hx
  cases i with
  |l _=>simp[T.int]at hn
  |c v=>
   cases v with
   |int kk m=>
    simp only[T.int,bc]at hn
    subst hn
    split at hr
    ·rename_i h0;exact⟨ys,kk,m,rfl,rfl,h0,row,hr⟩
    ·cases hr
   |_=>simp[T.int]at hn
theorem Pc{x:Lf}{kk:IntKind}{n:Int}(h:x.fq ρ=some (.c (.int kk n)))(h0:0<=n):ll ρ x=some n.toNat:=by
 simp[ll,h,h0]
theorem acq{t:Nat}{ti te:TI}(hT:sF P t ti)(hE:sF P ti.el te)(hk:ti.kd=3){b off len cap:Nat}{kk:IntKind}{n:Int}(h0:0<=n)(hn:n<len):
  (Instr.indexAt t (.slice (some ⟨b,off,none⟩) len cap) (.int kk n)).run P w=.ok (.pointer (some ⟨b,off+n.toNat*te.sz,none⟩)) w:=by
 have hu:=hT.sl hk
 obtain⟨i,z,hi,hs,_,_,_⟩:=hE.info
 simp[Instr.indexAt,asIntOf,run_underlying hu,h0,hn,sizeOf,typeInfo,hi,hs,Addr.add_lit]
theorem HL{lo:Lf}{n:Nat}(h:FZ lo=true)(h2:ll ρ lo=some n):n=0:=by
 unfold FZ at h
 split at h
 ·rename_i k m
  have hm:m=0:=of_decide_eq_true h
  subst hm
  simp[ll,Lf.fq,jH]at h2
  exact h2.symm
 ·cases h
theorem acr(dC:dU P cx)(h:Rel M B d up s ρ G a w)(hn:∀n,o.dst=some n->n<a.tmps.size){x y:Operand}{t:Nat}(ho:o.op=.indexAddr t x y)
  (hk:iy cx cw eW d o oi ⟨s.only R,[],ct,[]⟩=some k')(hd:k'.bm S ρ):bH P M B d up ρ a w s o k'.w Q∧k'.ct.i=ct.i:=by
 have hw:=db.start h R ct
 obtain⟨hr,hm⟩:=hw.gX x
 have HF:=(hw.gX y).1
 simp only[iy,ho,indexAt,cm,bc]at hk
 obtain⟨⟨k1,v⟩,⟨ti,fj,te,nZ,hv⟩,hk⟩:=hk
 have cJ:bP d o k1 v=k':=hk
 subst cJ
 have fi:=cF.1 hd
 have hT:=dC.ty _ _ fj
 have hE:=dC.ty _ _ nZ
 cases iz:Nat.beq ti.kd 3 with
 |false=>simp[iz]at hv
 |true=>
  have oz:=du iz
  simp only[iz,cond_true,cm]at hv
  obtain⟨⟨k2,ix⟩,h1,hv⟩:=hv
  have exe:∀{b off len cap:Nat} {kk:IntKind} {n:Int},a.eval x=.slice (some ⟨b,off,none⟩) len cap->a.eval y=.int kk n->0<=n->n<len->
    (execOp a.eval o).run P w=.ok (.value (.pointer (some ⟨b,off+n.toNat*te.sz,none⟩))) w:=by
   intro b off len cap kk n e1 e2 h0 a_
   refine BC (x:=Instr.indexAt t (a.eval x) (a.eval y)) (by unfold execOp;rw[ho]) ?_
   rw[e1,e2];exact acq hT hE oz h0 a_
  have kF:Wk.eO ⟨s.only R,[],ct,[]⟩ k2:=by
   unfold Wk.one at h1;split at h1
   ·exact Wk.dF h1
   ·cases h1
  have ixv:∀{k3:Wk} {z:Lf},(k3.em .de [z,ix]).1.bm S ρ->(k3.bm S ρ->k2.bm S ρ)->∃xs kk n row,k3.bm S ρ∧z.ev ρ=.l xs∧a.eval y=.int kk n∧0<=n∧xs[n.toNat]?=some row∧ll ρ ix=some n.toNat:=by
   intro k3 z yb HM
   obtain⟨F5,r,pL,_⟩:=Wk.bK yb
   obtain⟨_,_,t1,Pf,lQ⟩:=Wk.fY hw h1 (HM F5) HF
   simp only[List.map_cons,List.map_nil,Lf.bG Pf]at pL
   obtain⟨xs,kk,n,hx,hi,h0,row,fP⟩:=acp pL
   subst hi
   obtain⟨e,_⟩:=lQ.scalar
   exact⟨xs,kk,n,row,F5,hx,e,h0,fP,Pc Pf h0⟩
  have zk:∀{xs:List (List T)} {n:Int} {row:List T},0<=n->xs[n.toNat]?=some row->n<xs.length:=by
   intro xs n row h0 fP
   have:=(List.getElem?_eq_some_iff.1 fP).1
   omega
  have plain:∀{z:Lf} {tt:T} {val:Value} {k3:Wk} ,k3=k2->z.fq ρ=some tt->eB G.q w tt val->a.eval x=val->k1=(k3.em .de [z,ix]).1->v=.fp z ix te.sz 0->
    bH P M B d up ρ a w s o (bP d o k1 v).w Q∧(bP d o k1 v).ct.i=ct.i:=by
   intro z tt val k3 iz hz dK gM e1 e2
   subst iz e1 e2
   obtain⟨xs,kk,n,row,_,hx,he,h0,fP,cf⟩:=ixv fi id
   rw[Lf.bG hz]at hx
   subst hx
   have a_:=zk h0 fP
   obtain⟨ad,cap,rR,_⟩:=dK.rows
   subst rR
   cases dK with
   |nil=>simp at a_;omega
   | @l _ b off CW qT cv g1 g2 g3 g4 g5 g6=>
    refine⟨qQ h ((hw.same kF).same (Wk.bB _ _ _)) hn (x:=.fp z ix te.sz 0) (exe gM he h0 a_) ?_ (λi hi=>by simp[cT]at hi) Q,?_⟩
    ·refine⟨xs,n.toNat,row,b,off+n.toNat*te.sz,hz,cf,fP,rfl,λhl=>?_⟩
     exact(eB.l g1 g2 g3 g4 g5 g6).row fP hl
    ·rw[mw,(Wk.bB _ _ _).i,kF.i]
  have owned:∀{id:Nat} {q:mq} {p:List (Nat×Nat)} {z:Lf} {zs:List (List T)} {dp:Bool} {k3:Wk},k2.eO k3->(k3.bm S ρ->k2.bm S ρ)->ki ρ id q=some p->
    z.fq ρ=some (.l zs)->eg G w id dp p (.l zs)->a.eval x=G.H id p->M id->k1=(k3.em .de [z,ix]).1->v=.ep id q ix te.sz 0->
    bH P M B d up ρ a w s o (bP d o k1 v).w Q∧(bP d o k1 v).ct.i=ct.i:=by
   intro id q p z zs dp k3 hsm HM hp hz bu gM hM e1 e2
   subst e1 e2
   obtain⟨xs,kk,n,row,_,hx,he,h0,fP,cf⟩:=ixv fi HM
   rw[Lf.bG hz]at hx
   cases hx
   have a_:=zk h0 fP
   cases bu with
   |nil hH=>simp at a_;omega
   | @l _ _ _ b CW qT bE elem cv g1 g2 g3 g4 g5 g6 g7 g8 g9 rQ zh=>
    refine⟨qQ h ((((hw.same kF).same hsm)).same (Wk.bB _ _ _)) hn (x:=.ep id q ix te.sz 0) (exe (by rw[gM,g1]) he h0 a_) ?_ (λi hi=>by simp[cT]at hi;rw[hi];exact hM) Q,?_⟩
    ·exact⟨p,b,_,_,n.toNat,hp,g1,cf,by omega,by simp⟩
    ·rw[mw,(Wk.bB _ _ _).i,hsm.i,kF.i]
  split at hv
  ·rename_i z dN
   rw[dN]at hr
   obtain⟨e,he,oJ,_⟩:=hr
   cases he
   obtain⟨tt,hz,dK⟩:=oJ
   simp only[bc,Prod.mk.injEq]at hv
   exact plain rfl hz dK rfl hv.1.symm hv.2.symm
  ·rename_i id q dN
   rw[dN]at hr hm
   obtain⟨e,he,oJ,_⟩:=hr
   cases he
   obtain⟨p,hp,gM⟩:=oJ
   have hM:M id:=hm id (by simp[cT,dt])
   have dJ:=(hw.same kF).obj id
   split at hv
   ·rename_i q' z hz
    rw[hz]at dJ
    obtain⟨tt,ht,bu⟩:=dJ
    have nj:∃ys,tt=.l ys:=by cases bu<;>exact⟨_,rfl⟩
    simp only[bc,Prod.mk.injEq]at hv
    obtain⟨e1,e2⟩:=hv
    subst e1
    have HK:=(Wk.bK fi).1
    obtain⟨u,hu,ya,pX⟩:=Wk.gy _ _ z HK ht (CN hp) (.inr nj)
    have zi:∃ys,u=.l ys:=by
     rcases pX with hq0|h'
     ·have hp:=CN hp;rw[hq0]at hp;simp only[fW]at hp;cases hp;simp[gW]at hu;subst hu;exact nj
     ·exact h'
    obtain⟨zs,rfl⟩:=zi
    have jd:=eg.bD p bu hu ⟨zs,rfl⟩
    simp only[List.nil_append]at jd
    exact owned (Wk.eM _ _ z) (Wk.kM _ _ _) hp ya jd gM hM rfl e2.symm
   ·rename_i z hz
    rw[hz]at dJ
    obtain⟨tt,ht,bu⟩:=dJ
    obtain⟨ys,rfl⟩:∃ys,tt=.l ys:=by cases bu<;>exact⟨_,rfl⟩
    simp only[bc,Prod.mk.injEq]at hv
    simp only[lO]at hp
    cases hp
    exact owned (.refl _) (λh=>h) rfl ht bu gM hM hv.1.symm hv.2.symm
   ·rename_i tk x0 lo z hz
    rw[hz]at dJ
    obtain⟨tt,ht,dK,_,F,n0,zs,_,nk,rfl,_,sG,hz0⟩:=dJ
    simp only[lO]at hp
    cases hp
    cases pX:FZ lo with
    |false=>
     simp only[pX,cond_false,bc,Prod.mk.injEq]at hv
     exact plain rfl ht dK gM hv.1.symm hv.2.symm
    |true=>
     simp only[pX,cond_true,bc,Prod.mk.injEq]at hv
     have wU:n0=0:=HL pX nk
     obtain⟨e1,e2⟩:=hv
     subst e1 e2
     obtain⟨xs,kk,n,row,_,hx,he,h0,fP,cf⟩:=ixv fi (λh=>h)
     rw[Lf.bG ht]at hx
     cases hx
     have a_:=zk h0 fP
     obtain⟨ad,cap,rR,_⟩:=dK.rows
     rw[rR]at dK
     generalize rM:Value.slice ad zs.length cap=vv at dK
     cases dK with
     |nil=>simp at a_;omega
     | @l _ b off CW qT cv g1 g2 g3 g4 g5 g6=>
      cases rM
      have zl:=hz0 wU b off _ _ rR
      subst zl
      refine⟨qQ h ((hw.same kF).same (Wk.bB _ _ _)) hn (x:=.ep id [] ix te.sz 0) (exe (by rw[gM,rR]) he h0 a_) ?_ (λi hi=>by simp[cT]at hi;rw[hi];exact hM) Q,?_⟩
      ·exact⟨[],b,_,_,n.toNat,rfl,rR,cf,by omega,by simp⟩
      ·rw[mw,(Wk.bB _ _ _).i,kF.i]
   ·rename_i pv z _ hz
    rw[hz]at dJ
    obtain⟨tt,ht,dK,_⟩:=dJ
    simp only[bc,Prod.mk.injEq]at hv
    simp only[lO]at hp
    cases hp
    exact plain rfl ht dK gM hv.1.symm hv.2.symm
   ·cases hv
  ·cases hv
theorem aS.append:∀{cs es:List Ce} {vs us:List Value},aS G w ρ cs vs->aS G w ρ es us->aS G w ρ (cs++es) (vs++us)
 | [],_,[],_,_,h=>h
 | [],_,_::_,_,h,_=>h.elim
 |_::_,_,[],_,h,_=>h.elim
 |_::cs,_,_::vs,_,h,h'=>⟨h.1,aS.append h.2 h'⟩
theorem aS.fU{cs es:List Ce}{vs us:List Value}(off:Nat)(h:aS G w ρ cs vs)(h':aS G w ρ es us):
  aS G w ρ (fU cs off es) (vs.take off++us++vs.drop (off+us.length)):=by
 unfold Go.Proofs.YtjimmglpkndemaaGreatC.fU
 rw[<-h'.length]
 exact((h.take off).append h').append (h.drop _)
theorem HN(cs es:List Ce):dt (cs++es)=dt cs++dt es:=by
 induction cs with
 |nil=>rfl
 |cons c cs ih=>rw[List.cons_append,wO,wO c cs,ih,List.append_assoc]
theorem Pg(cs es:List Ce)(off:Nat):∀i∈dt (fU cs off es),i∈dt cs∨i∈dt es:=by
 intro i hi
 unfold fU at hi
 rw[HN,HN]at hi
 simp only[List.mem_append]at hi
 rcases hi with(hi|hi)|hi
 ·exact .inl (HI _ _ i hi)
 ·exact .inr hi
 ·exact .inl (HH _ _ i hi)
def wV:List Value->Nat->Array Value->Array Value
 | [],_,c=>c
 |v::vs,off,c=>wV vs (off+1) (c.setIfInBounds off v)
theorem Ph(off:Nat):∀(vs:List Value) (j:Nat) (c:Array Value),
  (vs.zipIdx j).foldl (λcs p=>cs.setIfInBounds (off+p.2) p.1) c=wV vs (off+j) c
 | [],_,_=>rfl
 |v::vs,j,c=>by
  simp only[List.zipIdx_cons,List.foldl_cons,wV]
  rw[Ph off vs (j+1),Nat.add_assoc]
theorem HO:∀(vs:List Value) (off:Nat) (c:Array Value),(wV vs off c).size=c.size
 | [],_,_=>rfl
 |v::vs,off,c=>by simp[wV,HO vs]
theorem Nv:∀(vs:List Value) (off:Nat) (c:Array Value) (i:Nat),off+vs.length<=c.size->
  (wV vs off c)[i]?=if off<=i∧i<off+vs.length then vs[i-off]? else c[i]?
 | [],off,c,i,_=>by
  simp only[wV,List.length_nil]
  rw[if_neg (by omega)]
 |v::vs,off,c,i,h=>by
  simp only[List.length_cons]at h
  simp only[wV]
  rw[Nv vs (off+1) _ i (by simp;omega)]
  by_cases h1:i=off
  ·subst h1
   rw[if_neg (by omega),if_pos (by simp)]
   simp[show i<c.size by omega]
  ·by_cases h2:off+1<=i∧i<off+1+vs.length
   ·rw[if_pos h2,if_pos (by simp;omega)]
    rw[show i-off=(i-(off+1))+1 by omega]
    simp
   ·rw[if_neg h2,if_neg (by simp;omega)]
    rw[Array.getElem?_setIfInBounds_ne (by omega)]
theorem jy_(vs:List Value)(off:Nat)(c:Array Value)(h:off+vs.length<=c.size):
  (wV vs off c).toList=c.toList.take off++vs++c.toList.drop (off+vs.length):=by
 apply List.ext_getElem?
 intro i
 rw[Array.getElem?_toList,Nv vs off c i h]
 have hl:(c.toList.take off).length=off:=by simp;omega
 by_cases h1:i<off
 ·rw[if_neg (by omega),List.append_assoc,List.getElem?_append_left (by omega),List.getElem?_take,if_pos h1,Array.getElem?_toList]
 ·rw[List.append_assoc,List.getElem?_append_right (by omega),hl]
  by_cases h2:i<off+vs.length
  ·rw[if_pos ⟨by omega,h2⟩,List.getElem?_append_left (by omega)]
  ·rw[if_neg (by omega),List.getElem?_append_right (by omega),List.getElem?_drop,Array.getElem?_toList]
   congr 1
   omega
theorem Pj{ag:Bool}{cs:List Ce}{v:Value}(h:eZ G w ρ ag cs v):aS G w ρ cs v.cells.toList:=by
 cases ag with
 |true=>obtain⟨vs,rfl,h⟩:=h;exact h
 |false=>
  obtain⟨e,rfl,h,hn⟩:=h
  have:v.cells=#[v]:=by
   cases v<;>first|rfl|exact absurd rfl (hn _)
  rw[this]
  exact⟨h,trivial⟩
theorem F6:∀{cs:List Ce} {vs:List Value},zd cs vs->aS G w ρ cs vs∧dt cs=[]
 | [],[],_=>⟨trivial,rfl⟩
 | [],_::_,h=>h.elim
 | .p (.k v)::cs,v'::vs,h=>by
  obtain⟨rfl,hs,h⟩:=h
  obtain⟨h1,h2⟩:=F6 h
  exact⟨⟨⟨.c v,by simp[Lf.fq,hs],.c hs⟩,h1⟩,by simp[dt,h2]⟩
 | .n::cs,v::vs,h=>by
  obtain⟨rfl,h⟩:=h
  obtain⟨h1,h2⟩:=F6 h
  exact⟨⟨rfl,h1⟩,by simp[dt,h2]⟩
 | .p (.k _)::_,[],h=>h.elim
 | .n::_,[],h=>h.elim
 | .p (.a _)::_,[],h=>h.elim
 | .p (.a _)::_,_::_,h=>h.elim
 | .p .e::_,[],h=>h.elim
 | .p .e::_,_::_,h=>h.elim
 | .o _ _::_,[],h=>h.elim
 | .o _ _::_,_::_,h=>h.elim
 | .d::_,[],h=>h.elim
 | .d::_,_::_,h=>h.elim
theorem HP{G1:Gh}{k:Wk}(hw:db M B d up ρ G a w k G1){fs:List (Nat×Nat)}{place:Nat->Option (Nat×Nat)}(BD:∀f o,fs[f]?=some o->place f=some o):
  ∀(ps:List (Nat×Operand)) (l:List (Nat×List Ce)) (zs cs:List Ce) (bE:Array Value),parts d k.get fs ps=some l->wD zs l=some cs->aS G1 w ρ zs bE.toList->
   (∀i∈dt zs,M i)->∃iG,Instr.fill place bE (ps.map λp=>(p.1,a.eval p.2))=some iG∧aS G1 w ρ cs iG.toList∧(∀i∈dt cs,M i)∧iG.size=bE.size
 | [],l,zs,cs,bE,hp,hc,hz,hi=>by
  simp only[parts,bc]at hp
  subst hp
  simp only[wD,bc]at hc
  subst hc
  exact⟨bE,rfl,hz,hi,rfl⟩
 |(f,x)::ps,l,zs,cs,bE,hp,hc,hz,hi=>by
  simp only[parts,cm]at hp
  obtain⟨of,hf,es,rS,hp⟩:=hp
  cases hle:Nat.beq es.length of.2 with
  |false=>simp[hle]at hp
  |true=>
   simp only[hle,cond_true,cm,bc]at hp
   obtain⟨l',jU,rfl⟩:=hp
   simp only[wD]at hc
   cases hb:Nat.ble (of.1+es.length) zs.length with
   |false=>simp[hb]at hc
   |true=>
    simp only[hb,cond_true]at hc
    obtain⟨hr,hm⟩:=hw.gX x
    unfold cellsOf at rS
    split at rS
    ·rename_i ag es' dN
     cases rS
     rw[dN]at hr hm
     have jW:=Pj hr
     have hlen:=jW.length
     have pX:=hz.length
     have h1:=du hle
     have h2:=Nat.le_of_ble_eq_true hb
     simp only[Array.length_toList]at hlen pX
     have kQ:of.1+(a.eval x).cells.toList.length<=bE.size:=by simp only[Array.length_toList];omega
     have wW:(((a.eval x).cells.zipIdx.foldl (λcs (c,j)=>cs.setIfInBounds (of.1+j) c) bE))=wV (a.eval x).cells.toList of.1 bE:=by
      rw[<-Array.foldl_toList,Array.toList_zipIdx]
      exact Ph of.1 _ 0 bE
     have rP:=aS.fU of.1 hz jW
     rw[<-jy_ _ _ _ kQ]at rP
     obtain⟨iG,g1,g2,g3,g4⟩:=HP hw BD ps l' _ cs (wV (a.eval x).cells.toList of.1 bE) jU hc rP λi dM=>by
      rcases Pg _ _ _ i dM with h|h
      ·exact hi i h
      ·exact hm i h
     refine⟨iG,?_,g2,g3,by rw[g4,HO]⟩
     simp only[List.map_cons,Instr.fill,BD f of hf]
     rw[if_neg]
     ·rw[wW];exact g1
     ·simp only[Array.length_toList]at kQ
      simp only[Bool.or_eq_true,decide_eq_true_eq]
      omega
    ·cases rS
theorem Pk:∀(l:List Field),(∀f∈l,∃i,P.info? f.type=some i)->
  (l.mapM λf=>(do pure (f.offset,<-sizeOf f.type):Sem (Nat×Nat))).run P w=.ok (l.map λf=>(f.offset,((P.info? f.type).map (·.size)).getD 0)) w
 | [],_=>rfl
 |f::l,h=>by
  obtain⟨i,hi⟩:=h f (by simp)
  have ih:=Pk l λg hg=>h g (by simp[hg])
  have h1:(do pure (f.offset,<-sizeOf f.type):Sem (Nat×Nat)).run P w=.ok (f.offset,i.size) w:=by
   simp[sizeOf,typeInfo,hi]
  rw[List.mapM_cons,Sem.run_bind,h1]
  simp only[Result.andThen_ok,Sem.run_bind,ih,Sem.run_pure,List.map_cons,hi,Option.map_some,Option.getD_some]
theorem acu(dC:dU P cx)(h:Rel M B d up s ρ G a w)(hn:∀n,o.dst=some n->n<a.tmps.size){t:Nat}{ps:Array (Nat×Operand)}(ho:o.op=.build t ps)
  (hk:iy cx cw eW d o oi ⟨s.only R,[],ct,[]⟩=some k'):bH P M B d up ρ a w s o k'.w Q∧k'.ct.i=ct.i:=by
 have hw:=db.start h R ct
 simp only[iy,ho,cm]at hk
 obtain⟨ti,fj,hk⟩:=hk
 cases HQ:ti.ag with
 |false=>simp[HQ]at hk
 |true=>
 simp only[HQ,cond_true,cm,bc]at hk
 obtain⟨l,hl,cs,jW,hk⟩:=hk
 have cJ:bP d o ⟨s.only R,[],ct,[]⟩ (.v true cs)=k':=hk
 subst cJ
 have hT:=dC.ty _ _ fj
 obtain⟨i,z,hi,hs,_,hz,uI⟩:=hT.info
 obtain⟨u,hu,m0,_⟩:=hT.ag
 obtain⟨CX,rP⟩:=F6 (G:=G) (w:=w) (ρ:=ρ) uI
 obtain⟨fs,rfl⟩:=m0.1 HQ
 have hlen:=hT.fl fs hu
 have zm:∀f∈fs.toList,∃i,P.info? f.type=some i:=by
  intro f hf
  obtain⟨n,hn1⟩:=List.getElem?_of_mem hf
  have a_:n<ti.fs.length:=by rw[<-hlen,<-Array.length_toList];exact(List.getElem?_eq_some_iff.1 hn1).1
  obtain⟨iR,xZ,i',e1,e2,_,e4,_⟩:=hT.fs n ti.fs[n] (List.getElem?_eq_getElem a_)
  rw[hu]at e1
  cases e1
  rw[<-Array.getElem?_toList,hn1]at e2
  cases e2
  exact⟨i',e4⟩
 have BD:∀(f:Nat) (o:Nat×Nat),ti.fs[f]?=some o->((fs.toList.map λf=>(f.offset,((P.info? f.type).map (·.size)).getD 0)).toArray)[f]?=some o:=by
  intro f o hf
  obtain⟨iR,xZ,i',e1,e2,e3,e4,_,e6⟩:=hT.fs f o hf
  rw[hu]at e1
  cases e1
  simp only[List.getElem?_toArray,List.getElem?_map,Array.getElem?_toList,e2,Option.map_some,e4,Option.getD_some,e3,e6]
 obtain⟨iG,g1,g2,g3,g4⟩:=HP (a:=a) hw (place:=λf=>((fs.toList.map λf=>(f.offset,((P.info? f.type).map (·.size)).getD 0)).toArray)[f]?) BD ps.toList l ti.zero cs z.cells hl jW CX (λi hi=>by rw[rP]at hi;cases hi)
 refine⟨qQ h hw hn (x:=.v true cs) (v:=.agg iG) (BC (x:=Instr.build t (ps.map λ(i,x)=>(i,a.eval x))) (by unfold execOp;rw[ho]) ?_) ⟨iG.toList,by simp,g2⟩ g3 Q,by rw[mw]⟩
 have acv:(fs.mapM λf=>(do pure (f.offset,<-sizeOf f.type):Sem (Nat×Nat))).run P w=.ok (fs.toList.map λf=>(f.offset,((P.info? f.type).map (·.size)).getD 0)).toArray w:=by
  rw[Array.mapM_eq_mapM_toList,Sem.run_map,Pk _ zm]
  rfl
 have yc:(ps.map λ(x:Nat×Operand)=>(x.1,a.eval x.2)).toList=ps.toList.map λp=>(p.1,a.eval p.2):=by simp
 simp only[Instr.build,Sem.run_bind,zeroValue,typeInfo,run_program,hi,Result.andThen_ok,Sem.run_pure,hz,run_underlying hu,acv,yc,g1]
end
section
variable {M M':Nat->Prop} {B:eu} {d:Nat} {up:Nat->Nat->Value} {s:St} {ρ:List T} {G:Gh} {a:Act} {w:World} {S:Nat->af} {P:Program}
structure zn (M':Nat->Prop) (d:Nat) (up:Nat->Nat->Value) (ρ:List T) (G':Gh) (a':Act) (w':World) (W:St):Prop where
 tm:∀e n u,e<=d->W.look (.t e n)=some u->cz G' w' ρ u (nW up d a' e n)
 bx:∀b u,W.look (.x b)=some u->fC G' w' ρ b u
 ob:∀i u,W.look (.o i)=some u->cA G' w' ρ i u
 fD:∀r u,W.look r=some u->∀i∈cT u,M' i
 key:∀i,(W.look (.x i)≠none∨W.look (.o i)≠none)->M' i
 gx:∀b l,G'.ω b=some l->M' l.id∧b<w'.heap.size
structure iU (w w':World):Prop where
 os:w'.os=w.os
 tape:w'.tape=w.tape
 output:w'.output=w.output
theorem Rel.step(h:Rel M B d up s ρ G a w){N:Nat->Prop}{G':Gh}{w':World}{W:St}(k:da (ng W) N G w G' w'){dst:Option Nat}{v:Value}
  (hN:∀i,N i->¬M i)(hM:∀i,M i->M' i)(hd:∀n,dst=some n->W.look (.t d n)≠none)(so:iU w w')(st:zn M' d up ρ G' (a.put dst v) w' W):
  Rel M' B d up (s.eY W) ρ G' (a.put dst v) w':=by
 refine⟨?_,?_,?_,?_,?_,st.gx,?_,?_,λi b hb=>⟨hM i (h.bt i b hb).1,?_⟩⟩
 ·intro e n he
  rw[St.aM]
  cases hl:W.look (.t e n)with
  |some u=>exact st.tm e n u he hl
  |none=>
   rw[HC λ⟨h1,h2⟩=>hd n h2 (h1▸hl)]
   exact(h.tm e n he).aU k λi hi hn=>hN i hn (h.fD _ i hi)
 ·intro b
  rw[St.aM]
  cases hl:W.look (.x b)with
  |some u=>exact st.bx b u hl
  |none=>
   by_cases hu:s.get (.x b)=.un
   ·simp only[Option.getD_none,hu];trivial
   ·exact(h.bx b).aU k (λhk=>hk hl) (λhn=>hN b hn (h.key b (.inl hu))) λi hi hn=>hN i hn (h.fD _ i hi)
 ·intro i
  rw[St.aM]
  cases hl:W.look (.o i)with
  |some u=>exact st.ob i u hl
  |none=>
   by_cases hu:s.get (.o i)=.un
   ·simp only[Option.getD_none,hu];trivial
   ·exact(h.ob i).aU k (λp hk=>hk hl) (λhn=>hN i hn (h.key i (.inr hu))) λj hj hn=>hN j hn (h.fD _ j hj)
 ·intro r i hi
  rw[St.aM]at hi
  cases hl:W.look r with
  |some u=>rw[hl]at hi;exact st.fD r u hl i hi
  |none=>rw[hl]at hi;exact hM i (h.fD r i hi)
 ·intro i hi
  rw[St.aM,St.aM]at hi
  rcases hi with hi|hi
  ·cases hl:W.look (.x i)with
   |some u=>exact st.key i (.inl (by rw[hl];simp))
   |none=>rw[hl]at hi;exact hM i (h.key i (.inl hi))
  ·cases hl:W.look (.o i)with
   |some u=>exact st.key i (.inr (by rw[hl];simp))
   |none=>rw[hl]at hi;exact hM i (h.key i (.inr hi))
 ·have:=h.dn;cases dst<;>exact this
 ·obtain⟨b1,b2,b3,b4,b5,b6,b7⟩:=h.base
  refine⟨so.os.trans b1,so.tape.trans b2,so.output.trans b3,Nat.le_trans b4 k.size,λb hb h0=>?_,λb hb=>?_,b7⟩
  ·obtain⟨h1,h2⟩:=b5 b hb h0
   obtain⟨_,h4⟩:=k.free b (Nat.lt_of_lt_of_le hb b4) (wN h1)
   exact⟨k.frs b (Nat.lt_of_lt_of_le hb b4) h1,h4.trans h2⟩
  ·obtain⟨h1,h2⟩:=b6 b hb
   obtain⟨h3,h4⟩:=k.own b .f h1 (λhf=>hf)
   exact⟨h3,h4.trans h2⟩
 ·obtain⟨h1,h2⟩:=h.bt i b hb
  rw[(k.nm i λhn=>hN i hn h1).1];exact h2
theorem acw{W W1 W2:St}(hW:∀r,W.look r=(W2.look r).or (W1.look r)):(∀l,ng W1 l->ng W l)∧(∀l,ng W2 l->ng W l):=by
 constructor
 ·intro l hl
  cases l with
  |f=>exact hl
  |x b=>show W.look _≠none;rw[hW];intro e;rw[Option.or_eq_none_iff]at e;exact hl e.2
  |o i p=>show W.look _≠none;rw[hW];intro e;rw[Option.or_eq_none_iff]at e;exact hl e.2
 ·intro l hl
  cases l with
  |f=>exact hl
  |x b=>show W.look _≠none;rw[hW];intro e;rw[Option.or_eq_none_iff]at e;exact hl e.1
  |o i p=>show W.look _≠none;rw[hW];intro e;rw[Option.or_eq_none_iff]at e;exact hl e.1
theorem F7{k:Wk}{G1:Gh}(h:Rel M B d up s ρ G a w)(hk:db M B d up ρ G a w k G1){dst:Option Nat}{v:Value}{w':World}{G2:Gh}{N:Nat->Prop}{W W2:St}
  (hW:∀r,W.look r=(W2.look r).or (k.w.look r))(aU:da (ng W2) N G1 w G2 w')(hN:∀i,N i->¬M i)(hM:∀i,M i->M' i)
  (hd:∀n,dst=some n->W2.look (.t d n)≠none)(so:iU w w')(st:zn M' d up ρ G2 (a.put dst v) w' W2):
  Rel M' B d up (s.eY W) ρ G2 (a.put dst v) w':=by
 have hg:∀r,(k.r.eY W).get r=((k.r.eY k.w).eY W2).get r:=by
  intro r
  rw[St.aM,St.aM,St.aM,hW]
  cases W2.look r<;>rfl
 obtain⟨k1,k2⟩:=acw hW
 refine h.glue (s':=k.r) ((hk.aU.mono k1 λ_ hf=>hf.elim).trans (aU.mono k2 λ_ hn=>hn)) hN hM (λn hn he=>?_) ((hk.rel.step aU hN hM hd so st).congr hg)
 rw[hW,Option.or_eq_none_iff]at he
 exact hd n hn he.1
variable {cx:Cx} {cw eW oi:Nat} {R:List bf} {ct:Ct} {k':Wk} {o:Oper} {Q:Exit->Act->World->Prop}
def Mn(M:Nat->Prop)(lo hi:Nat):Nat->Prop:=λi=>M i∨(lo<=i∧i<hi)
theorem Mn.left{M:Nat->Prop}{lo hi i:Nat}(h:M i):Mn M lo hi i:=.inl h
theorem acx{k:Wk}{v:SV}(r:bf):(bP d o k v).w.look r=if o.dst.map (bf.t d)=some r then some v else k.w.look r:=by
 unfold bP
 cases o.dst with
 |none=>simp
 |some n=>
  simp only[Option.map_some,bc]
  split
  ·rename_i he;subst he;exact St.be _ _ _
  ·rename_i he;exact St.cg _ _ he
def eP(d:Nat)(o:Oper)(v:SV):St:=match o.dst with|some n=>[(.t d n,v)]|none=>[]
theorem HR{v:SV}(r:bf):(eP d o v).look r=if o.dst.map (bf.t d)=some r then some v else none:=by
 unfold eP
 cases o.dst with
 |none=>simp[St.look]
 |some n=>
  simp only[Option.map_some,bc,St.look]
  cases hb:(bf.t d n).beq r with
  |true=>simp[bf.beq_iff.1 hb]
  |false=>
   have:¬(bf.t d n=r):=λe=>by simp[bf.beq_iff.2 e]at hb
   simp[this]
theorem jX(A C:St)(r:bf):(A++C).look r=(A.look r).or (C.look r):=by
 induction A with
 |nil=>simp[St.look]
 |cons x A ih=>
  obtain⟨r',v⟩:=x
  simp only[List.cons_append,St.look]
  cases r'.beq r<;>simp[ih]
theorem sH(r r':bf)(v:SV):St.look [(r,v)] r'=if r=r' then some v else none:=by
 simp only[St.look]
 cases hb:r.beq r' with
 |true=>simp[bf.beq_iff.1 hb]
 |false=>
  have:¬(r=r'):=λe=>by simp[bf.beq_iff.2 e]at hb
  simp[this]
theorem uL{k k0:Wk}{v:SV}{W2:St}(hk:∀r,k.w.look r=(W2.look r).or (k0.w.look r))(r:bf):(bP d o k v).w.look r=((eP d o v++W2).look r).or (k0.w.look r):=by
 rw[acx,jX,HR,hk]
 split<;>simp
theorem rT{k:Wk}{r:bf}{v:SV}(r':bf):(k.w.set r v).look r'=(St.look [(r,v)] r').or (k.w.look r'):=by
 rw[sH]
 by_cases h:r=r'
 ·subst h;rw[St.be];simp
 ·rw[St.cg _ _ h];simp[h]
theorem jD{x u:SV}{W:St}{r:bf}(h:(eP d o x++W).look r=some u):(∃n,o.dst=some n∧r=.t d n∧u=x)∨W.look r=some u:=by
 rw[jX,HR]at h
 split at h
 ·rename_i he
  cases hd:o.dst with
  |none=>simp[hd]at he
  |some n=>
   simp[hd]at he
   simp at h
   exact .inl ⟨n,rfl,he.symm,h.symm⟩
 ·simp at h
  exact .inr h
theorem iH{r r':bf}{v u:SV}{W:St}(h:St.look ((r,v)::W) r'=some u):(r'=r∧u=v)∨W.look r'=some u:=by
 simp only[St.look]at h
 cases hb:r.beq r' with
 |true=>simp[hb]at h;exact .inl ⟨(bf.beq_iff.1 hb).symm,h.symm⟩
 |false=>simp[hb]at h;exact .inr h
theorem F8{x:SV}{W:St}{n:Nat}(h:o.dst=some n):(eP d o x++W).look (.t d n)≠none:=by
 rw[jX,HR,h];simp
def Gh.box(G:Gh)(b i:Nat):Gh:=
 {G with ω:=λc=>if c=b then some (.x i)else G.ω c,β:=λj=>if j=i then b else G.β j}
theorem Pl{s:St}(h:Rel M B d up s ρ G a w){b:Nat}(hb:w.heap.size<=b):G.ω b=none:=by
 cases ho:G.ω b with
 |none=>rfl
 |some l=>have:=(h.gx b l ho).2;omega
theorem CY(w:World)(o:Obj):iU w (w.alloc o):=⟨rfl,rfl,rfl⟩
theorem Pm{k:Wk}{G1:Gh}(h:Rel M B d up s ρ G a w)(hk:db M B d up ρ G a w k G1)(hn:∀n,o.dst=some n->n<a.tmps.size)(hM:¬M k.ct.i)
  {bE:Array Value}{t:TypeId}{ag:Bool}{cs:List Ce}(jW:aS G1 w ρ cs bE.toList)(CZ:∀i∈dt cs,M i)
  (hx:(execOp a.eval o).run P w=.ok (.value (.pointer (some ⟨w.heap.size,0,none⟩))) (w.alloc (.cells bE t))):
  bH P (Mn M k.ct.i (k.ct.i+1)) B d up ρ a w s o (bP d o {(k.set (.x k.ct.i) (.v ag cs))with ct:=⟨k.ct.a,k.ct.i+1⟩} (.pt k.ct.i 0)).w Q:=by
 have hf:=Pl hk.rel (Nat.le_refl w.heap.size)
 have hK:da (ng (eP d o (.pt k.ct.i 0)++[(.x k.ct.i,.v ag cs)])) (λi=>i=k.ct.i) G1 w (G1.box w.heap.size k.ct.i) (w.alloc (.cells bE t)):=by
  refine⟨by simp,λb hb h0=>?_,λb hb h0=>?_,λb l hb _=>?_,λi hi=>?_⟩
  ·have:b≠w.heap.size:=by omega
   exact⟨(Gh.uE (by simp[Gh.box,this])).trans h0,heap_alloc_old w _ b hb⟩
  ·have:b≠w.heap.size:=by omega
   simp[Gh.box,this,h0]
  ·have a_:=(hk.rel.gx b l hb).2
   have:b≠w.heap.size:=by omega
   exact⟨by simp[Gh.box,this,hb],heap_alloc_old w _ b a_⟩
  ·exact⟨by simp[Gh.box,hi],λ_ _=>rfl⟩
 have dj:∀i∈dt cs,¬(i=k.ct.i):=λi hi e=>hM (e▸CZ i hi)
 simp only[bH,Oper.wp,hx,Oper.upon]
 refine⟨G1.box w.heap.size k.ct.i,F7 h hk (W2:=eP d o (.pt k.ct.i 0)++[(.x k.ct.i,.v ag cs)]) (uL (W2:=[(.x k.ct.i,.v ag cs)]) (k:={(k.set (.x k.ct.i) (.v ag cs))with ct:=⟨k.ct.a,k.ct.i+1⟩}) λr=>by exact rT (k:=k) (r:=.x k.ct.i) (v:=.v ag cs) r)
  hK (λi hi=>by subst hi;exact hM) (λi hi=>.inl hi) (λn m4=>F8 m4) (CY _ _) ?_,x_ _ _ _⟩
 have ib:Mn M k.ct.i (k.ct.i+1) k.ct.i:=.inr ⟨Nat.le_refl _,Nat.lt_succ_self _⟩
 refine⟨λe n u he hl=>?_,λb u hl=>?_,λi u hl=>?_,λr u hl i hi=>?_,λi hi=>?_,λb l hb=>?_⟩
 ·rcases jD hl with⟨n',gm,e1,rfl⟩|hl
  ·cases e1
   rw[gm,Nr (hn _ gm)]
   simp[cz,Gh.box]
  ·rcases iH hl with⟨e1,_⟩|hl
   ·cases e1
   ·cases hl
 ·rcases jD hl with⟨n',gm,e1,rfl⟩|hl
  ·cases e1
  ·rcases iH hl with⟨e1,rfl⟩|hl
   ·cases e1
    refine⟨by simp[Gh.box],bE,t,?_,jW.aU hK dj⟩
    simpa only[Gh.box,if_pos]using heap_alloc_new w (.cells bE t)
   ·cases hl
 ·rcases jD hl with⟨n',gm,e1,rfl⟩|hl
  ·cases e1
  ·rcases iH hl with⟨e1,rfl⟩|hl
   ·cases e1
   ·cases hl
 ·rcases jD hl with⟨n',gm,e1,rfl⟩|hl
  ·simp[cT]at hi;subst hi;exact ib
  ·rcases iH hl with⟨e1,rfl⟩|hl
   ·exact .inl (CZ i hi)
   ·cases hl
 ·have:∀r:bf,(r=.x i∨r=.o i)->St.look (eP d o (.pt k.ct.i 0)++[(bf.x k.ct.i,SV.v ag cs)]) r≠none->i=k.ct.i:=by
   intro r hr hl
   obtain⟨u,hu⟩:=Option.ne_none_iff_exists'.1 hl
   rcases jD hu with⟨n',gm,e1,rfl⟩|hl
   ·rcases hr with rfl|rfl<;>cases e1
   ·rcases iH hl with⟨e1,rfl⟩|hl
    ·rcases hr with rfl|rfl
     ·cases e1;rfl
     ·cases e1
    ·cases hl
  rcases hi with hi|hi
  ·rw[this _ (.inl rfl) hi];exact ib
  ·rw[this _ (.inr rfl) hi];exact ib
 ·simp only[Gh.box]at hb
  split at hb
  ·rename_i he
   cases hb
   exact⟨ib,by simp[he]⟩
  ·obtain⟨h1,h2⟩:=hk.rel.gx b l hb
   exact⟨.inl h1,by simp;omega⟩
theorem acy(dC:dU P cx)(h:Rel M B d up s ρ G a w)(hn:∀n,o.dst=some n->n<a.tmps.size){t:Nat}(ho:o.op=.alloc t)
  (hk:iy cx cw eW d o oi ⟨s.only R,[],ct,[]⟩=some k')(hM:∀i,ct.i<=i->i<k'.ct.i->¬M i):bH P (Mn M ct.i k'.ct.i) B d up ρ a w s o k'.w Q:=by
 have hw:=db.start h R ct
 simp only[iy,ho,cm,bc]at hk
 obtain⟨ti,fj,hk⟩:=hk
 have cJ:bP d o {(Wk.set ⟨s.only R,[],ct,[]⟩ (.x ct.i) (.v ti.ag ti.zero))with ct:=⟨ct.a,ct.i+1⟩} (.pt ct.i 0)=k':=hk
 have oB:k'.ct.i=ct.i+1:=by rw[<-cJ,mw]
 have hT:=dC.ty _ _ fj
 obtain⟨i,z,hi,hs,_,hz,uI⟩:=hT.info
 obtain⟨CX,rP⟩:=F6 (G:=G) (w:=w) (ρ:=ρ) uI
 rw[oB,<-cJ]
 refine Pm (bE:=z.cells) (t:=t) h hw hn (hM _ (Nat.le_refl _) (by simp only[oB];omega)) CX (λi hi=>by rw[rP]at hi;cases hi) ?_
 unfold execOp
 rw[ho]
 simp[Instr.alloc,zeroValue,typeInfo,hi,hz,newVar,newRow]
theorem acz(dC:dU P cx)(h:Rel M B d up s ρ G a w)(hn:∀n,o.dst=some n->n<a.tmps.size){t:Nat}{x:Operand}(ho:o.op=.box t x)
  (hk:iy cx cw eW d o oi ⟨s.only R,[],ct,[]⟩=some k')(hM:∀i,ct.i<=i->i<k'.ct.i->¬M i):bH P (Mn M ct.i k'.ct.i) B d up ρ a w s o k'.w Q:=by
 have hw:=db.start h R ct
 simp only[iy,ho,cm]at hk
 obtain⟨ti,fj,cs,jW,hk⟩:=hk
 cases hl:Nat.beq cs.length ti.sz with
 |false=>simp[hl]at hk
 |true=>
  simp only[hl,cond_true,bc]at hk
  have cJ:bP d o {(Wk.set ⟨s.only R,[],ct,[]⟩ (.x ct.i) (.v ti.ag cs))with ct:=⟨ct.a,ct.i+1⟩} (.pt ct.i 0)=k':=hk
  have oB:k'.ct.i=ct.i+1:=by rw[<-cJ,mw]
  obtain⟨hr,hm⟩:=hw.gX x
  unfold cellsOf at jW
  split at jW
  ·rename_i ag es dN
   cases jW
   rw[dN]at hr hm
   rw[oB,<-cJ]
   refine Pm (bE:=(a.eval x).cells) (t:=t) h hw hn (hM _ (Nat.le_refl _) (by simp only[oB];omega)) (Pj hr) hm ?_
   unfold execOp
   rw[ho]
   simp[Instr.box,newVar,newRow]
  ·cases jW
theorem Pn{k:Wk}{G1:Gh}(hk:db M B d up ρ G a w k G1):∀(xs:List Operand) (bs:List Nat),
  (xs.mapM λx=>match bY d k.get x with| .pt b 0=>some b|_=>none)=some bs->xs.map a.eval=bs.map (λb=>Value.pointer (some ⟨G1.β b,0,none⟩))∧∀b∈bs,M b
 | [],bs,h=>by simp at h;subst h;exact⟨rfl,λ_ h=>by cases h⟩
 |x::xs,bs,h=>by
  simp only[List.mapM_cons,Option.pure_def,Option.bind_eq_bind,cm,bc]at h
  obtain⟨b,hb,wX,HS,rfl⟩:=h
  obtain⟨h1,h2⟩:=Pn hk xs wX HS
  obtain⟨hr,hm⟩:=hk.gX x
  split at hb
  ·rename_i b' dN
   cases hb
   rw[dN]at hr hm
   refine⟨by simp only[List.map_cons,h1];rw[show a.eval x=_ from hr],λc hc=>?_⟩
   rcases List.mem_cons.1 hc with rfl|hc
   ·exact hm _ (by simp[cT])
   ·exact h2 c hc
  ·cases hb
theorem acA(h:Rel M B d up s ρ G a w)(hn:∀n,o.dst=some n->n<a.tmps.size){fn:Fn}{first wE:Array Operand}(ho:o.op=.makeFunc fn first wE)
  (hk:iy cx cw eW d o oi ⟨s.only R,[],ct,[]⟩=some k'):bH P M B d up ρ a w s o k'.w Q∧k'.ct.i=ct.i:=by
 have hw:=db.start h R ct
 cases fn with
 |func f=>
  simp only[iy,ho]at hk
  cases he:first.isEmpty with
  |false=>simp[he]at hk
  |true=>
   simp only[he,cond_true,cm,bc]at hk
   obtain⟨bs,HS,hk⟩:=hk
   have cJ:bP d o ⟨s.only R,[],ct,[]⟩ (.cl f bs)=k':=hk
   subst cJ
   obtain⟨h1,h2⟩:=Pn hw _ bs HS
   have HT:first=#[]:=by simpa using he
   refine⟨qQ h hw hn (x:=.cl f bs) (v:=.func (.func f) #[] (wE.map a.eval)) (BC (x:=Instr.makeFunc (.func f) (first.map a.eval) (wE.map a.eval)) (by unfold execOp;rw[ho]) ?_) ?_ h2 Q,by rw[mw]⟩
   ·rw[HT];simp[Instr.makeFunc]
   ·show _=_
    congr 1
    apply Array.ext'
    simpa using h1
 |_=>simp[iy,ho]at hk
end
end Go.Proofs.YtjimmglpkndemaaGreatC

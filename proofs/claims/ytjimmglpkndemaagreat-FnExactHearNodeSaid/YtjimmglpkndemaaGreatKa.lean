/- The walk by reflection: a part of its laws, for any function. Conditions: none. -/
import Derived.Calls
import Derived.Orders
import Derived.Below
import Derived.KernelRfl
import Derived.Laws.OwnMore
import Derived.Laws.Cells
import Derived.Laws.IdiomCopy
import Derived.Laws.Small
import Derived.Laws.Entries
import Derived.Laws.StructEq
import Derived.Laws.BytesString
namespace Go.Proofs.YtjimmglpkndemaaGreatC
theorem bG.{u}{α:Type u}(a b:α):(some a=some b)=(a=b):=Option.some.injEq a b
theorem bD(a b:Bool):((a&&b)=true)=(a=true∧b=true):=Bool.and_eq_true a b
theorem cN.{u,v}{α:Type u}{β:Type v}{x:Option α}{f:α->Option β}{b:β}:x.bind f=some b↔∃a,x=some a∧f a=some b:=Option.bind_eq_some_iff
theorem ef{n m:Nat}(h:Nat.beq n m=true):n=m:=Nat.eq_of_beq_eq_true h
theorem aA{a b:Prop}(x:a)(y:b):a∧b:=⟨x,y⟩
theorem dh:(false=true)=False:=Bool.false_eq_true
set_option linter.unusedVariables false
inductive T where
 |c (v:Value)
 |l (xs:List (List T))
 deriving Inhabited
inductive Lf where
 |k (v:Value)
 |a (n:Nat)
 |e
inductive bE where
 |t (d n:Nat)
 |x (n:Nat)
 |o (n:Nat)
abbrev np:=List (Lf×Nat×Nat)
inductive Ce where
 |p (x:Lf)
 |o (id:Nat) (q:np)
 |n
 |d
inductive Pv where
 |z
 |w (tk:Nat) (x lo:Lf)
inductive SV where
 |un
 |v (ag:Bool) (cs:List Ce)
 |pt (bx off:Nat)
 |ep (id:Nat) (q:np) (ix:Lf) (wd off:Nat)
 |fp (s ix:Lf) (wd off:Nat)
 |tp (vs:List (Bool×List Ce))
 |cl (f:Nat) (bs:List Nat)
 |ob (dp:Bool) (x:Lf)
 |fz (pv:Pv) (x:Lf)
 |tk (x m:Lf)
 |fl (x:Lf)
 |fr (x:Lf)
def bE.beq:bE->bE->Bool
 | .t d n,.t e m=>Nat.beq n m&&Nat.beq d e
 | .x n,.x m=>Nat.beq n m
 | .o n,.o m=>Nat.beq n m
 |_,_=>false
theorem bE.beq_iff{r s:bE}:r.beq s=true↔r=s:=by
 cases r<;>cases s<;>simp[bE.beq,and_comm]
instance:DecidableEq bE:=λr s=>if h:r.beq s=true then isTrue (bE.beq_iff.1 h)else isFalse λe=>h (bE.beq_iff.2 e)
abbrev St:=List (bE×SV)
def St.get(s:St)(r:bE):SV:=
 match s with
 | []=>.un
 |(r',v)::s=>bif r'.beq r then v else St.get s r
def St.set(s:St)(r:bE)(v:SV):St:=
 match s with
 | []=>[(r,v)]
 |(r',v')::s=>bif r'.beq r then(r,v)::s else(r',v')::St.set s r v
theorem St.ci(s:St)(r:bE)(v:SV):(s.set r v).get r=v:=by
 induction s with
 |nil=>simp[St.set,St.get,(bE.beq_iff).2 rfl]
 |cons x s ih=>
  obtain⟨r',v'⟩:=x
  cases h:r'.beq r with
  |true=>simp[St.set,St.get,h,(bE.beq_iff).2 rfl]
  |false=>simp[St.set,St.get,h,ih]
theorem St.eG(s:St){r r':bE}(v:SV)(h:r≠r'):(s.set r v).get r'=s.get r':=by
 have hb:r.beq r'=false:=by
  cases hh:r.beq r' with
  |false=>rfl
  |true=>exact absurd (bE.beq_iff.1 hh) h
 induction s with
 |nil=>simp[St.set,St.get,hb]
 |cons x s ih=>
  obtain⟨r2,v2⟩:=x
  cases h2:r2.beq r with
  |true=>
   have:=bE.beq_iff.1 h2
   subst this
   simp[St.set,St.get,h2,hb]
  |false=>
   cases h3:r2.beq r' with
   |true=>simp[St.set,St.get,h2,h3]
   |false=>simp[St.set,St.get,h2,h3,ih]
inductive Prim where
 |bin (op:BinOp)
 |bb (op:BinOp)
 |un (op:UnOp)
 |len
 |lens
 |dC
 |cell (w j:Nat)
 |bq (w j:Nat)
 |idx
 |sub (w:Nat) (lo hi:Bool)
 |A2 (lo hi:Bool)
 |lit (w:Nat) (ms:List Bool)
 |app (sc:Bool) (w:Nat)
 |mk
 |put (sc:Bool) (w off n:Nat)
 |gH (ms:List Bool) (w off:Nat)
 |dE (w j:Nat)
 |iS (w j:Nat)
 |uw (ks:List Nat)
 |mx
 |mn
 |cnv (k:IntKind)
 |bM
 |str
 |byt
 |yJ
 |lj
inductive Fa where
 |pr (p:Prim) (xs:List Lf)
 |cl (g:Nat) (xs:List Lf) (m:Nat)
inductive PL where
 |ret (xs:List Lf)
 |ins (i:Fa) (k:PL)
 |ite (c:Nat) (x y:PL)
 |loop (xs:List Lf) (body:PL)
 |join (k:PL) (body:PL)
 |go (j:Nat) (xs:List Lf)
 |r7 (tag:Nat) (s:List St)
def T.cE:T:=.l []
def Lf.ev(ρ:List T):Lf->T
 | .k v=>.c v
 | .a n=>ρ.getD n T.cE
 | .e=>.l []
def r8:Nat:=4294967296
def mu(op:BinOp):Value->Value->Option Value
 | .int k a,.int k' b=>
  match op with
  | .shl=>if b<0 then none else some (.int k (k.wrap (a*2^(min b.toNat k.bits))))
  | .shr=>if b<0 then none else some (.int k (a.fdiv (2^(min b.toNat k.bits))))
  |op=>
  if k=k' then
   match op with
   | .and=>some (.int k (k.wrap ((BitVec.ofInt k.bits a&&&BitVec.ofInt k.bits b).toNat:Nat)))
   | .or=>some (.int k (k.wrap ((BitVec.ofInt k.bits a|||BitVec.ofInt k.bits b).toNat:Nat)))
   | .xor=>some (.int k (k.wrap ((BitVec.ofInt k.bits a^^^BitVec.ofInt k.bits b).toNat:Nat)))
   | .andNot=>some (.int k (k.wrap ((BitVec.ofInt k.bits a&&& ~~~BitVec.ofInt k.bits b).toNat:Nat)))
   | .add=>some (.int k (k.wrap (a+b)))
   | .sub=>some (.int k (k.wrap (a-b)))
   | .mul=>some (.int k (k.wrap (a*b)))
   | .quo=>if b=0 then none else some (.int k (k.wrap (a.tdiv b)))
   | .rem=>if b=0 then none else some (.int k (a.tmod b))
   | .eql=>some (.bool (a==b))
   | .neq=>some (.bool (a !=b))
   | .lss=>some (.bool (decide (a<b)))
   | .leq=>some (.bool (decide (a<=b)))
   | .gtr=>some (.bool (decide (a>b)))
   | .geq=>some (.bool (decide (a>=b)))
   |_=>none
  else none
 | .string a,.string b=>
  match op with
  | .add=>if a.size+b.size<r8 then some (.string (a++b))else none
  | .eql=>some (.bool (a.toList==b.toList))
  | .neq=>some (.bool !(a.toList==b.toList))
  |_=>none
 |_,_=>none
def Kz(op:BinOp):Value->Value->Option Value
 | .bool a,.bool b=>
  match op with
  | .eql=>some (.bool (a==b))
  | .neq=>some (.bool !(a==b))
  |_=>none
 |_,_=>none
def unV(op:UnOp):Value->Option Value
 | .bool a=>match op with| .not=>some (.bool !a)|_=>none
 | .int k a=>match op with| .neg=>some (.int k (k.wrap (0-a)))|_=>none
 |_=>none
def T.val:T->Option Value
 | .c v=>some v
 | .l _=>none
def T.int:T->Option Int
 | .c (.int _ n)=>some n
 |_=>none
def T.rows:T->Option (List (List T))
 | .l xs=>some xs
 |_=>none
def vK(s i:T):Option (List T):=
 s.rows.bind λxs=>i.int.bind λn=>if 0<=n then xs[n.toNat]? else none
def rl(w:Nat):Nat->List T->List (List T)
 |0,_=>[]
 |n+1,ts=>ts.take w::rl w n (ts.drop w)
def eQ:T->Bool
 | .c (.int ..)| .c (.bool _)| .c (.string _)=>true
 |_=>false
def Ro:Nat->Value->Value->Option Bool
 |1,.int k a,.int k' b=>if k=k' then some (a==b)else none
 |4,.bool a,.bool b=>some (a==b)
 |2,.string a,.string b=>some (a==b)
 |_,_,_=>none
def xH:List Nat->List T->List T->Option Bool
 | [],[],[]=>some true
 |k::ks,.c x::xs,.c y::ys=>(Ro k x y).bind λb=>(xH ks xs ys).bind λc=>some (b&&c)
 |_,_,_=>none
def setRow(xs:List (List T))(i off:Nat)(vs:List T):List (List T):=
 xs.modify i λr=>r.take off++vs++r.drop (off+vs.length)
def r9:List Bool->List T->Bool
 |true::ms,t::ts=>eQ t&&r9 ms ts
 |false::ms,_::ts=>r9 ms ts
 |true::_,[]=>false
 |_,_=>true
def okW(w:Nat):List (List T)->Bool
 | []=>true
 |r::_=>Nat.beq r.length w
def sD(us:List (List T))(n k:Nat):Bool:=((us.drop n).take k).all λr=>!r.isEmpty
def Ar(us:List (List T))(n k:Nat):List (List T):=us.take n++List.replicate k []++us.drop (n+k)
def SF:List T->Option Int
 | [.c (.int .u8 n)]=>some n
 |_=>none
def yK:List (List T)->Option (List Int)
 | []=>some []
 |r::rs=>(SF r).bind λn=>(yK rs).bind λns=>some (n::ns)
def A3(ns:List Int):ByteArray:=⟨(ns.map λn=>UInt8.ofNat n.toNat).toArray⟩
def Prim.ev:Prim->List T->Option T
 | .bin op,[x,y]=>x.val.bind λa=>y.val.bind λb=>(mu op a b).bind λr=>some (.c r)
 | .bb op,[x,y]=>x.val.bind λa=>y.val.bind λb=>(Kz op a b).bind λr=>some (.c r)
 | .un op,[x]=>x.val.bind λa=>(unV op a).bind λr=>some (.c r)
 | .len,[.l xs]=>some (.c (.int .i64 xs.length))
 | .lens,[.c (.string s)]=>some (.c (.int .i64 s.size))
 | .dC,[s,i]=>(vK s i).bind λ_=>some (.c (.bool true))
 | .cell w j,[s,i]=>(vK s i).bind λr=>if r.length=w then r[j]? else none
 | .bq w j,[s,i]=>(vK s i).bind λr=>if r.length=w then(r[j]?).bind λt=>if eQ t=true then some t else none else none
 | .idx,[.c (.string s),.c (.int _ n)]=>if 0<=n then(if h:n.toNat<s.size then some (.c (.int .u8 (s.get n.toNat h).toNat))else none)else none
 | .sub w lo hi,.l xs::ts=>if okW w xs=true then
  (match lo,hi,ts with
   |false,false,[]=>some (0,(xs.length:Int))
   |true,false,[.c (.int _ l)]=>some (l,(xs.length:Int))
   |false,true,[.c (.int _ h)]=>some (0,h)
   |true,true,[.c (.int _ l),.c (.int _ h)]=>some (l,h)
   |_,_,_=>none).bind λ(l,h)=>
   if 0<=l then(if l<=h then(if h<=xs.length then some (.l ((xs.take h.toNat).drop l.toNat))else none)else none)else none
  else none
 | .A2 lo hi,.c (.string s)::ts=>
  (match lo,hi,ts with
   |false,false,[]=>some (0,(s.size:Int))
   |true,false,[.c (.int _ l)]=>some (l,(s.size:Int))
   |false,true,[.c (.int _ h)]=>some (0,h)
   |true,true,[.c (.int _ l),.c (.int _ h)]=>some (l,h)
   |_,_,_=>none).bind λ(l,h)=>
   if 0<=l then(if l<=h then(if h<=s.size then some (.c (.string (s.extract l.toNat h.toNat)))else none)else none)else none
 | .lit w ms,ts=>if 0<w then(if r9 ms ts=true then some (.l (rl w (ts.length/w) ts))else none)else none
 | .app sc w,[.l xs,.l ys]=>if xs.length+ys.length<r8 then(if(!sc||ys.all (·.all eQ))=true then(if okW w xs=true then(if okW w ys=true then some (.l (xs++ys))else none)else none)else none)else none
 | .mk,.c (.int _ n):: .c (.int _ c)::ts=>if 0<=n then(if n=c then(if c<r8 then some (.l (List.replicate n.toNat ts))else none)else none)else none
 | .put sc w off n,s::i::vs=>(vK s i).bind λr=>if r.length=w then(if off+n<=w then(if vs.length=n then(if(!sc||vs.all eQ)=true then
   s.rows.bind λxs=>i.int.bind λk=>some (.l (setRow xs k.toNat off vs))else none)else none)else none)else none
 | .gH ms w off,s::i::vs=>(vK s i).bind λr=>if r.length=w then(if off+vs.length<=w then(if r9 ms vs=true then
   s.rows.bind λxs=>i.int.bind λk=>some (.l (setRow xs k.toNat off vs))else none)else none)else none
 | .dE w j,[s,i]=>(vK s i).bind λr=>if r.length=w then(r[j]?).bind λt=>t.rows.bind λxs=>some (.l xs)else none
 | .iS w j,[s,i,v]=>(vK s i).bind λr=>if r.length=w then(if j<w then
   s.rows.bind λxs=>i.int.bind λk=>some (.l (setRow xs k.toNat j [v]))else none)else none
 | .uw ks,ts=>(xH ks (ts.take ks.length) (ts.drop ks.length)).bind λb=>some (.c (.bool b))
 | .mx,[.c (.int k a),.c (.int _ b)]=>some (.c (.int k (if b>a then b else a)))
 | .mn,[.c (.int k a),.c (.int _ b)]=>some (.c (.int k (if b<a then b else a)))
 | .bM,[t]=>if eQ t=true then some t else none
 | .yJ,[.l us,.c (.int _ n)]=>if 0<=n then(if n.toNat+1<=us.length then(if sD us n.toNat 1=true then some (.l (Ar us n.toNat 1))else none)else none)else none
 | .lj,[.l us,.c (.int _ n),.l ys]=>if 0<=n then(if n.toNat+ys.length<=us.length then(if sD us n.toNat ys.length=true then some (.l (Ar us n.toNat ys.length))else none)else none)else none
 | .cnv k,[.c (.int _ n)]=>some (.c (.int k (k.wrap n)))
 | .str,[.l xs]=>(yK xs).bind λns=>some (.c (.string (A3 ns)))
 |_,_=>none
def fS(ts:List T):Nat->Nat->List T
 |_,0=>[]
 |i,m+1=>ts.getD i T.cE::fS ts (i+1) m
abbrev af:=List T->Option (List T)
def Fa.ev(S:Nat->af)(ρ:List T):Fa->Option (List T)
 | .pr p xs=>(p.ev (xs.map (Lf.ev ρ))).bind λt=>some [t]
 | .cl g xs m=>(S g (xs.map (Lf.ev ρ))).bind λts=>some (fS ts 0 m)
def iter{α β:Type}(F:(α->Option β)->α->Option β):Nat->α->Option β
 |0,_=>none
 |n+1,x=>F (iter F n) x
def rounds:Nat:=1099511627776
def PL.den(S:Nat->af)(R:Nat)(K:List af)(ρ:List T):PL->Option (List T)
 | .ret xs=>some (xs.map (Lf.ev ρ))
 | .ins (.pr p xs) k=>(p.ev (xs.map (Lf.ev ρ))).bind λt=>k.den S R K (ρ++[t])
 | .ins (.cl g xs m) k=>(S g (xs.map (Lf.ev ρ))).bind λts=>k.den S R K (ρ++fS ts 0 m)
 | .ite c x y=>match ρ.getD c T.cE with
  | .c (.bool b)=>bif b then x.den S R K ρ else y.den S R K ρ
  |_=>none
 | .loop xs body=>iter (λself ts=>body.den S R (self::K) (ρ++ts)) R (xs.map (Lf.ev ρ))
 | .join k body=>body.den S R ((λts=>k.den S R K (ρ++ts))::K) ρ
 | .go j xs=>match K[j]? with
  |some f=>f (xs.map (Lf.ev ρ))
  |none=>none
 | .r7 _ _=>none
structure TI where
 sz:Nat
 bytes:Nat
 ag:Bool
 zero:List Ce
 el:Nat
 fs:List (Nat×Nat)
 kd:Nat
inductive Ck where
 |s
 |p
 |o (dp:Bool)
inductive PS where
 |v (ag:Bool) (n:Nat)
 |x (n:Nat)
structure nZ where
 ps:List PS
 rs:List (Bool×List Ck)
structure Ct where
 a:Nat
 i:Nat
abbrev jZ:=List (Nat×Bool)
def fact(fs:jZ)(n:Nat):Option Bool:=
 match fs with
 | []=>none
 |(m,b)::fs=>bif Nat.beq m n then some b else fact fs n
inductive Cj where
 |k
 |p
 |o (dp:Bool)
 |d
inductive Rj where
 |drop
 |ft (ag:Bool) (cs:List Cj)
 |rows (js:List (Nat×Bool))
abbrev Js:=List (Nat×Bool×Rj)
structure Cx where
 ty:Nat->Option TI
 sg:Nat->Option nZ
 fn:Nat->Option Func
 rH:Nat->Nat->Nat->Option Js
 fz:Nat->Nat->Nat->Bool
 nest:Nat->Bool
def kW:Value->Bool
 | .int .. | .bool _| .string _=>true
 |_=>false
def A4:Value->SV
 | .slice none 0 0=>.v false [.n]
 |v=>bif kW v then .v false [.p (.k v)]else .un
def cn(d:Nat)(s:bE->SV):Operand->SV
 | .tmp t=>s (.t d t)
 | .const v=>A4 v
 | .func f=>.cl f []
 | .global _=>.un
def cellsOf:SV->Option (List Ce)
 | .v _ cs=>some cs
 |_=>none
def Lf.beq:Lf->Lf->Bool
 | .a n,.a m=>Nat.beq n m
 | .e,.e=>true
 | .k (.int k1 n),.k (.int k2 m)=>decide (k1=k2)&&decide (n=m)
 | .k (.bool b1),.k (.bool b2)=>b1==b2
 | .k (.string s1),.k (.string s2)=>s1.data.toList==s2.data.toList
 |_,_=>false
structure Wk where
 r:St
 w:St
 ct:Ct
 is:List Fa
def St.look(s:St)(r:bE):Option SV:=
 match s with
 | []=>none
 |(r',v)::s=>bif r'.beq r then some v else St.look s r
def Wk.get(k:Wk)(r:bE):SV:=
 match k.w.look r with
 |some v=>v
 |none=>k.r.get r
def Wk.em(k:Wk)(p:Prim)(xs:List Lf):Wk×Lf:=({k with ct:=⟨k.ct.a+1,k.ct.i⟩,is:=.pr p xs::k.is},.a k.ct.a)
def Wk.set(k:Wk)(r:bE)(v:SV):Wk:={k with w:=k.w.set r v}
def Wk.down(k:Wk)(x:Lf):np->Wk×Lf
 | []=>(k,x)
 |(ix,w,j)::q=>
  let(k,y):=k.em (.dE w j) [x,ix]
  Wk.down k y q
def Wk.up(k:Wk)(x y:Lf):np->Wk×Lf
 | []=>(k,y)
 |(ix,w,j)::q=>
  let(k,z):=k.em (.dE w j) [x,ix]
  let(k,z):=Wk.up k z y q
  k.em (.iS w j) [x,ix,z]
def Wk.val(k:Wk):Ce->Option (Wk×Lf)
 | .p x=>some (k,x)
 | .n=>some (k,.e)
 | .o id q=>
  match k.get (.o id)with
  | .ob true x=>some (k.down x q)
  | .ob false x| .fz _ x| .fl x=>match q with
   | []=>some (k,x)
   |_=>none
  |_=>none
 | .d=>none
def Wk.jB(k:Wk):List Ce->Option (Wk×List Lf)
 | []=>some (k,[])
 |c::cs=>(k.val c).bind λ(k,x)=>(Wk.jB k cs).bind λ(k,xs)=>some (k,x::xs)
def Wk.one(k:Wk):SV->Option (Wk×Lf)
 | .v false [c]=>k.val c
 |_=>none
def Wk.mw(k:Wk)(id:Nat):Option Wk:=
 match k.get (.o id)with
 | .ob _ x=>some (k.set (.o id) (.fz .z x))
 | .fz _ _=>some k
 |_=>none
def Wk.flat(k:Wk)(id:Nat):Option Wk:=
 match k.get (.o id)with
 | .ob _ x=>some (k.set (.o id) (.ob false x))
 | .fz _ _=>some k
 |_=>none
def Wk.eK(k:Wk):List Ce->Option Wk
 | []=>some k
 | .o id _::cs=>(k.mw id).bind λk=>Wk.eK k cs
 |_::cs=>Wk.eK k cs
def fT:Ce->Bool
 | .n=>true
 |_=>false
def Wk.fU(k:Wk)(fz:Bool):List Ce->List Ce->Option (Wk×List Lf×Bool)
 | [],[]=>some (k,[],true)
 |z::zs,.p x::cs=>(Wk.fU k fz zs cs).bind λ(k,xs,dp)=>some (k,x::xs,dp&& !fT z)
 |z::zs,.n::cs=>(Wk.fU k fz zs cs).bind λ(k,xs,dp)=>some (k,.e::xs,dp)
 |z::zs,.o id []::cs=>
  match k.get (.o id)with
  | .fz _ x=>(Wk.fU k fz zs cs).bind λ(k,xs,dp)=>some (k,x::xs,false)
  | .ob d x=>
   bif fz then(Wk.fU (k.set (.o id) (.fz .z x)) fz zs cs).bind λ(k,xs,dp)=>some (k,x::xs,false)
   else bif d then(Wk.fU (k.set (.o id) .un) fz zs cs).bind λ(k,xs,dp)=>some (k,x::xs,dp)
   else(Wk.fU (k.set (.o id) (.fz .z x)) fz zs cs).bind λ(k,xs,dp)=>some (k,x::xs,false)
  |_=>none
 |_,_=>none
def Wk.ew(k:Wk):List Ce->List Ce->Option (Wk×List Lf)
 | [],[]=>some (k,[])
 |z::zs,.p x::cs=>bif fT z then none else(Wk.ew k zs cs).bind λ(k,xs)=>some (k,x::xs)
 |z::zs,.n::cs=>(Wk.ew k zs cs).bind λ(k,xs)=>some (k,.e::xs)
 |z::zs,.o id []::cs=>
  match k.get (.o id)with
  | .ob true x| .fl x=>(Wk.ew (k.set (.o id) .un) zs cs).bind λ(k,xs)=>some (k,x::xs)
  |_=>none
 |_,_=>none
def Wk.sE(k:Wk)(fz:Bool)(zs cs:List Ce):Option (Wk×List Lf×Bool):=
 match(bif fz then none else k.ew zs cs)with
 |some (k,xs)=>some (k,xs,true)
 |none=>k.fU true zs cs
def gI(cs:List Ce)(off:Nat)(vs:List Ce):List Ce:=cs.take off++vs++cs.drop (off+vs.length)
def Wk.row(k:Wk)(sc:Bool)(s ix:Lf)(w off:Nat):Nat->Wk×List Ce
 |0=>(k,[])
 |n+1=>
  let(k,y):=k.em (bif sc then .bq w off else .cell w off) [s,ix]
  let(k,cs):=Wk.row k sc s ix w (off+1) n
  (k,.p y::cs)
def Wk.pO(k:Wk)(y ix:Lf)(id:Nat)(q:np)(w off:Nat):List Ce->Wk×List Ce
 | []=>(k,[])
 |z::zs=>
  bif fT z then
   let r:=Wk.pO (k.em (.dE w off) [y,ix]).1 y ix id q w (off+1) zs
   (r.1,.o id (q++[(ix,w,off)])::r.2)
  else
   let r:=Wk.pO (k.em (.bq w off) [y,ix]).1 y ix id q w (off+1) zs
   (r.1,.p (k.em (.bq w off) [y,ix]).2::r.2)
def storeAt(cx:Cx)(k:Wk)(t:Nat)(ad v:SV):Option Wk:=
 (cx.ty t).bind λti=>(cellsOf v).bind λcs=>
 bif Nat.beq cs.length ti.sz then
  match ad with
  | .pt bx off=>
   match k.get (.x bx)with
   | .v ag yL=>bif Nat.ble (off+cs.length) yL.length then some (k.set (.x bx) (.v ag (gI yL off cs)))else none
   |_=>none
  | .ep id q ix w off=>
   bif Nat.beq (id%4) 2 then none else
   bif ti.zero.any fT then
    match q with
    | []=>(k.flat id).bind λk=>(k.eK cs).bind λk=>(k.jB cs).bind λ(k,xs)=>
     match k.get (.o id)with
     | .ob _ x=>
      let(k,y):=k.em (.put false w off xs.length) (x::ix::xs)
      some (k.set (.o id) (.ob false y))
     |_=>none
    |_=>none
   else(k.jB cs).bind λ(k,xs)=>
    match k.get (.o id)with
    | .ob dp x=>
     bif dp||q.isEmpty then
      let(k,y):=k.down x q
      let(k,y):=k.em (.put true w off xs.length) (y::ix::xs)
      let(k,y):=k.up x y q
      some (k.set (.o id) (.ob dp y))
     else none
    |_=>none
  |_=>none
 else none
def KA(cx:Cx)(k:Wk)(t:Nat)(ad v:SV):Option Wk:=
 match ad with
 | .ep id [] ix w off=>
  (cx.ty t).bind λti=>(cellsOf v).bind λcs=>
  bif Nat.beq cs.length ti.sz&&ti.zero.any fT&&Nat.beq (id%4) 0 then
   match k.get (.o id)with
   | .ob true x=>(k.ew ti.zero cs).bind λ(k2,xs)=>
    match k2.get (.o id)with
    | .ob true _=>
     let(k3,y):=k2.em (.gH (ti.zero.map λz=>!fT z) w off) (x::ix::xs)
     some (k3.set (.o id) (.ob true y))
    |_=>none
   |_=>none
  else none
 |_=>none
def loadAt(cx:Cx)(nest:Bool)(k:Wk)(t:Nat):SV->Option (Wk×SV)
 | .pt bx off=>(cx.ty t).bind λti=>
  match k.get (.x bx)with
  | .v _ cs=>bif Nat.ble (off+ti.sz) cs.length then some (k,.v ti.ag ((cs.drop off).take ti.sz))else none
  |_=>none
 | .fp s ix w off=>(cx.ty t).bind λti=>
  let(k,cs):=k.row false s ix w off ti.sz
  some (k,.v ti.ag cs)
 | .ep id q ix w off=>(cx.ty t).bind λti=>
  match k.get (.o id)with
  | .ob true x=>
   bif nest&&ti.zero.any fT&&Nat.beq ti.zero.length ti.sz&&Nat.beq (id%2) 1 then
    let(k,y):=k.down x q
    let(k,cs):=k.pO y ix id q w off ti.zero
    some (k,.v ti.ag cs)
   else bif ti.zero.any fT then
    match q with
    | []=>bif Nat.beq (id%2) 0 then
      let(k,cs):=k.row false x ix w off ti.sz
      some (k,.v ti.ag cs)
     else(k.flat id).bind λk=>
     let(k,cs):=k.row false x ix w off ti.sz
     some (k,.v ti.ag cs)
    |_=>none
   else
    let(k,y):=k.down x q
    let(k,cs):=k.row true y ix w off ti.sz
    some (k,.v ti.ag cs)
  | .ob false x| .fz _ x=>
   match q with
   | []=>
    let(k,cs):=k.row false x ix w off ti.sz
    some (k,.v ti.ag cs)
   |_=>none
  |_=>none
 |_=>none
def n8(i:Nat):Nat:=i+(1-i%2)
def fw(i:Nat):Nat:=i+(4-i%4)%4
def nq(i:Nat):Nat:=i+(6-i%4)%4
theorem KB(i:Nat):i<=n8 i:=by unfold n8;omega
theorem A5(i:Nat):i<=fw i:=by unfold fw;omega
theorem SG(i:Nat):i<=nq i:=by unfold nq;omega
theorem SH(i:Nat):nq i%4=2:=by unfold nq;omega
def JA:Lf->Bool
 | .k (.int _ n)=>decide (n=0)
 |_=>false
def Wk.mN(k:Wk)(y ix:Lf)(j:Nat)(w off:Nat):List Ce->Wk×List Ce×Lf
 | []=>(k,[],.e)
 |z::zs=>
  bif fT z then
   let r:=Wk.mN (k.em (.dE w off) [y,ix]).1 y ix j w (off+1) zs
   (r.1,.o j []::r.2.1,(k.em (.dE w off) [y,ix]).2)
  else
   let r:=Wk.mN (k.em (.bq w off) [y,ix]).1 y ix j w (off+1) zs
   (r.1,.p (k.em (.bq w off) [y,ix]).2::r.2.1,r.2.2)
def KC(cx:Cx)(k:Wk)(t:Nat):SV->Option (Wk×SV)
 | .ep id [] ix w off=>(cx.ty t).bind λti=>
  match k.get (.o id)with
  | .fz (.w tk x0 lo) x=>
   match k.get (.o tk)with
   | .tk y0 m=>
    bif JA lo&&x0.beq y0&&Nat.beq (ti.zero.filter fT).length 1&&Nat.beq ti.zero.length ti.sz then
     let j:=nq k.ct.i
     let r:=k.mN x ix j w off ti.zero
     let q:=r.1.em .yJ [m,ix]
     some ({((q.1.set (.o tk) (.tk y0 q.2)).set (.o j) (.fl r.2.2))with ct:=⟨q.1.ct.a,j+1⟩},.v ti.ag r.2.1)
    else none
   |_=>none
  |_=>none
 |_=>none
def indexAt(cx:Cx)(k:Wk)(t:Nat)(s ix:SV):Option (Wk×SV):=
 (cx.ty t).bind λti=>(cx.ty ti.el).bind λte=>
 bif Nat.beq ti.kd 3 then
  (k.one ix).bind λ(k,i)=>
   match s with
   | .v false [.p x]=>
    let(k,_):=k.em .dC [x,i]
    some (k,.fp x i te.sz 0)
   | .v false [.o id q]=>
    match k.get (.o id),q with
    | .ob true x,q=>
     let(k,y):=k.down x q
     let(k,_):=k.em .dC [y,i]
     some (k,.ep id q i te.sz 0)
    | .ob false x,[]=>
     let(k,_):=k.em .dC [x,i]
     some (k,.ep id [] i te.sz 0)
    | .fz (.w tk x0 lo) x,[]=>
     let(k,_):=k.em .dC [x,i]
     bif JA lo then some (k,.ep id [] i te.sz 0)else some (k,.fp x i te.sz 0)
    | .fz _ x,[]=>
     let(k,_):=k.em .dC [x,i]
     some (k,.fp x i te.sz 0)
    |_,_=>none
   |_=>none
 else none
def fieldAt(cx:Cx)(t f:Nat):SV->Option SV
 | .pt bx off=>(cx.ty t).bind λti=>(ti.fs[f]?).bind λo=>some (.pt bx (off+o.1))
 | .ep id q ix w off=>(cx.ty t).bind λti=>(ti.fs[f]?).bind λo=>some (.ep id q ix w (off+o.1))
 | .fp s ix w off=>(cx.ty t).bind λti=>(ti.fs[f]?).bind λo=>some (.fp s ix w (off+o.1))
 |_=>none
def Wk.args(k:Wk):List SV->List PS->Option (Wk×List Lf×List (Nat×Bool×Nat))
 | [],[]=>some (k,[],[])
 | .v ag cs::vs,.v xI n::ps=>
  bif (ag==xI)&&Nat.beq cs.length n then
   (k.jB cs).bind λ(k,xs)=>(Wk.args k vs ps).bind λ(k,ys,bs)=>some (k,xs++ys,bs)
  else none
 | .pt bx 0::vs,.x n::ps=>
  match k.get (.x bx)with
  | .v ag cs=>
   bif Nat.beq cs.length n then
    (k.eK cs).bind λk=>(k.jB cs).bind λ(k,xs)=>(Wk.args k vs ps).bind λ(k,ys,bs)=>some (k,xs++ys,(bx,ag,n)::bs)
   else none
  |_=>none
 |_,_=>none
def Fb:SV->List Ce
 | .v _ cs=>cs
 |_=>[]
def wu:List SV->List Ce
 | []=>[]
 |v::vs=>Fb v++wu vs
def qj(sg:nZ):Bool:=sg.rs.any (λr=>r.2.any λ | .p| .o false=>true|_=>false)||sg.ps.any λ | .x _=>true|_=>false
def fV:Ct->List Ck->Ct×List Ce×St
 |ct,[]=>(ct,[],[])
 |ct,.o dp::ks=>
  let r:=fV ⟨ct.a+1,n8 ct.i+1⟩ ks
  (r.1,.o (n8 ct.i) []::r.2.1,(.o (n8 ct.i),.ob dp (.a ct.a))::r.2.2)
 |ct,_::ks=>
  let r:=fV ⟨ct.a+1,ct.i⟩ ks
  (r.1,.p (.a ct.a)::r.2.1,r.2.2)
def oz:Ct->List (Bool×List Ck)->Ct×List (Bool×List Ce)×St
 |ct,[]=>(ct,[],[])
 |ct,r::rs=>
  let x:=fV ct r.2
  let y:=oz x.1 rs
  (y.1,(r.1,x.2.1)::y.2.1,x.2.2++y.2.2)
def Et(a:Nat):Nat->List Ce
 |0=>[]
 |n+1=>.p (.a a)::Et (a+1) n
def ux:Nat->List (Nat×Bool×Nat)->Nat×St
 |a,[]=>(a,[])
 |a,(bx,ag,n)::bs=>
  let r:=ux (a+n) bs
  (r.1,(.x bx,.v ag (Et a n))::r.2)
def uy:List (Bool×List Ce)->SV
 | []=>.un
 | [v]=>.v v.1 v.2
 |vs=>.tp vs
def wv:List Nat->Bool
 | []=>true
 |x::xs=>!(xs.any (Nat.beq x))&&wv xs
def SI(k:Wk)(d:Nat)(dst:Option Nat)(g:Nat)(sg:nZ)(vs:List SV):Option Wk:=
 (bif qj sg then k.eK (wu vs)else some k).bind λk=>
 (k.args vs sg.ps).bind λ(k,xs,bs)=>
 bif wv (bs.map (·.1))then
  let r:=oz k.ct sg.rs
  let b:=ux r.1.a bs
  let dw:St:=match dst with|some n=>[(.t d n,uy r.2.1)]|none=>[]
  some {r:=k.r,w:=(dw++(r.2.2++b.2))++k.w,ct:=⟨b.1,r.1.i⟩,is:=.cl g xs (b.1-k.ct.a)::k.is}
 else none
def yM(cs:List Ce):List (Nat×List Ce)->Option (List Ce)
 | []=>some cs
 |(off,vs)::ps=>bif Nat.ble (off+vs.length) cs.length then yM (gI cs off vs) ps else none
def parts(d:Nat)(s:bE->SV)(fs:List (Nat×Nat)):List (Nat×Operand)->Option (List (Nat×List Ce))
 | []=>some []
 |(f,x)::ps=>(fs[f]?).bind λo=>(cellsOf (cn d s x)).bind λcs=>bif Nat.beq cs.length o.2 then(parts d s fs ps).bind λl=>some ((o.1,cs)::l)else none
def my:Ce->Nat
 | .p (.k (.int _ _))=>1
 | .p (.k (.string _))=>2
 | .p (.k (.bool _))=>4
 |_=>0
def SJ(k:Wk)(op:BinOp)(ks:List Nat)(xs ys:List Ce):Option (Wk×Lf):=
 (k.jB xs).bind λ(k,xs)=>(k.jB ys).bind λ(k,ys)=>
  let(k,r):=k.em (.uw ks) (xs++ys)
  match op with
  | .eql=>some (k,r)
  | .neq=>some (k.em (.un .not) [r])
  |_=>none
def nC(zs:List Ce):Nat->List Ce
 |0=>[]
 |n+1=>zs++nC zs n
def KD(k:Wk):SV->Option (Wk×Lf×Bool)
 | .v false [.n]=>some (k,.e,true)
 | .v false [.o id []]=>
  match k.get (.o id)with
  | .ob dp x=>bif Nat.beq (id%4) 2 then none else some (k.set (.o id) .un,x,dp)
  |_=>none
 |_=>none
def Wk.gJ(k:Wk):SV->Option Wk
 | .v false [.o j []]=>
  match k.get (.o j)with
  | .fz (.w tk x0 lo) y=>
   match k.get (.o tk)with
   | .tk y0 m=>bif x0.beq y0&&Nat.beq (j%4) 0 then
     let r:=k.em .lj [m,lo,y]
     some ((r.1.set (.o tk) (.tk y0 r.2)).set (.o j) (.fr y))
    else none
   |_=>none
  |_=>none
 |_=>none
def Wk.ww(k:Wk)(b:Bool)(v:SV):Wk:=
 match(bif b then k.gJ v else none)with
 |some k'=>k'
 |none=>k
def A6(sl fz:Bool)(k:Wk):SV->Option (Wk×Lf×Bool)
 | .v false [.n]=>some (k,.e,true)
 | .v false [.p x]=>some (k,x,!sl)
 | .v false [.o id q]=>
  bif sl then
   match k.get (.o id),q with
   | .ob dp x,[]=>bif dp&& !fz then some (k.set (.o id) .un,x,true)else some (k.set (.o id) (.ob false x),x,false)
   | .fz _ x,[]=>some (k,x,false)
   | .fr x,[]=>bif fz then none else some (k.set (.o id) .un,x,true)
   |_,_=>none
  else(k.val (.o id q)).bind λr=>some (r.1,r.2,true)
 |_=>none
def A7(cx:Cx)(k:Wk)(t:Nat)(x:SV)(lo hi:Option SV):Option (Wk×SV):=
 match x with
 | .v false [.o id []]=>
  match k.get (.o id)with
  | .fz (.w tk x0 l0) y=>
   (cx.ty t).bind λti=>(cx.ty ti.el).bind λte=>
   bif Nat.beq ti.kd 3&&JA l0 then
    (match lo with
     |none=>some (k,[])
     |some l=>(k.one l).bind λ(k,l)=>some (k,[l])).bind λ(k,ls)=>
    (match hi with
     |none=>some (k,[])
     |some h=>(k.one h).bind λ(k,h)=>some (k,[h])).bind λ(k,hs)=>
    let r:=k.em (.sub te.sz lo.isSome hi.isSome) (y::(ls++hs))
    let j:=fw k.ct.i
    some ({(r.1.set (.o j) (.fz (.w tk x0 (ls.headD (.k (.int .i64 0)))) r.2))with ct:=⟨r.1.ct.a,j+1⟩},.v false [.o j []])
   else none
  |_=>none
 |_=>none
def jf(cx:Cx)(cJ fA:Nat)(d:Nat)(o:Oper)(oi:Nat)(k:Wk):Option Wk:=
 let put (k:Wk) (v:SV):Wk:=match o.dst with|some n=>k.set (.t d n) v|none=>k
 let one (x:Operand):SV:=cn d k.get x
 let lf (r:Wk×Lf):Option Wk:=some (put r.1 (.v false [.p r.2]))
 match o.op with
 | .move x| .assign x=>some (put k (one x))
 | .alloc t=>(cx.ty t).bind λti=>some (put {(k.set (.x k.ct.i) (.v ti.ag ti.zero))with ct:=⟨k.ct.a,k.ct.i+1⟩} (.pt k.ct.i 0))
 | .box t x=>(cx.ty t).bind λti=>(cellsOf (one x)).bind λcs=>
   bif Nat.beq cs.length ti.sz then some (put {(k.set (.x k.ct.i) (.v ti.ag cs))with ct:=⟨k.ct.a,k.ct.i+1⟩} (.pt k.ct.i 0))else none
 | .build t ps=>(cx.ty t).bind λti=>bif ti.ag then(parts d k.get ti.fs ps.toList).bind λl=>(yM ti.zero l).bind λcs=>some (put k (.v true cs))else none
 | .buildSlice t n ps=>(cx.ty t).bind λti=>(cx.ty ti.el).bind λte=>bif Nat.beq ti.kd 3&&Nat.ble (n*te.sz) 65536&&Nat.blt 0 te.sz then
   (parts d k.get ((List.range n).map λi=>(i*te.sz,te.sz)) ps.toList).bind λl=>(yM (nC te.zero n) l).bind λcs=>
    (k.sE (cx.fz cJ fA oi) (nC te.zero n) cs).bind λ(k,xs,dp)=>
     let(k,y):=k.em (.lit te.sz (bif dp then(nC te.zero n).map (λz=>!fT z)else [])) xs
     let id:=fw k.ct.i
     some (put {(k.set (.o id) (.ob dp y))with ct:=⟨k.ct.a,id+1⟩} (.v false [.o id []]))
   else none
 | .makeSlice t l c=>(cx.ty t).bind λti=>(cx.ty ti.el).bind λte=>(k.one (one l)).bind λ(k,n)=>(k.one (one c)).bind λ(k,m)=>
   (k.jB te.zero).bind λ(k,zs)=>bif Nat.beq ti.kd 3&&Nat.ble te.bytes 65536&&Nat.blt 0 te.sz then
    let(k,y):=k.em .mk (n::m::zs)
    let id:=fw k.ct.i
    some (put {(k.set (.o id) (.ob true y))with ct:=⟨k.ct.a,id+1⟩} (.v false [.o id []]))
   else none
 | .load t a=>(match(bif cx.fz cJ fA oi then KC cx k t (one a)else none)with|some r=>some r|none=>loadAt cx (cx.nest cJ) k t (one a)).bind λ(k,v)=>some (put k v)
 | .store t a x=>(match(bif cx.fz cJ fA oi then none else KA cx k t (one a) (one x))with|some k=>some k|none=>storeAt cx k t (one a) (one x)).bind λk=>some (put k .un)
 | .nilCheck x=>match one x with
   | .pt bx off=>some (put k (.pt bx off))
   | .ep id q ix w off=>some (put k (.ep id q ix w off))
   | .fp s ix w off=>some (put k (.fp s ix w off))
   |_=>none
 | .binOp op t x y _=>match one x,one y with
   | .v false [a],.v false [b]=>(cx.ty t).bind λti=>(k.val a).bind λ(k,a)=>(k.val b).bind λ(k,b)=>
     bif Nat.beq ti.kd 4 then lf (k.em (.bb op) [a,b])
     else bif Nat.beq ti.kd 1||Nat.beq ti.kd 2 then lf (k.em (.bin op) [a,b])else none
   | .v true es,.v true bs=>(cx.ty t).bind λti=>bif Nat.beq ti.kd 5&&Nat.beq es.length ti.sz then(SJ k op (ti.zero.map my) es bs).bind lf else none
   |_,_=>none
 | .unOp op _ x=>(k.one (one x)).bind λ(k,a)=>lf (k.em (.un op) [a])
 | .convert s t x=>(cx.ty s).bind λsi=>(cx.ty t).bind λti=>(k.one (one x)).bind λ(k,a)=>
   match ti.zero with
   | [.p (.k (.int kk _))]=>bif Nat.beq ti.kd 1&&Nat.beq si.kd 1 then lf (k.em (.cnv kk) [a])else none
   | [.p (.k (.string _))]=>bif Nat.beq ti.kd 2&&Nat.beq si.kd 3 then(cx.ty si.el).bind λte=>
     match te.zero with
     | [.p (.k (.int .u8 _))]=>bif Nat.beq te.kd 1 then lf (k.em .str [a])else none
     |_=>none
    else none
   |_=>none
 | .slice t x lo hi mx=>match(bif mx.isSome then none else A7 cx k t (one x) (lo.map one) (hi.map one))with
  |some (k,v)=>some (put k v)
  |none=>(cx.ty t).bind λti=>(k.eK (Fb (one x))).bind λk=>(k.one (one x)).bind λ(k,a)=>
   match mx with
   |some _=>none
   |none=>
   (match lo with
    |none=>some (k,[])
    |some l=>(k.one (one l)).bind λ(k,l)=>some (k,[l])).bind λ(k,ls)=>
   (match hi with
    |none=>some (k,[])
    |some h=>(k.one (one h)).bind λ(k,h)=>some (k,[h])).bind λ(k,hs)=>
   bif Nat.beq ti.kd 3 then(cx.ty ti.el).bind λte=>lf (k.em (.sub te.sz lo.isSome hi.isSome) (a::(ls++hs)))
   else bif Nat.beq ti.kd 2 then lf (k.em (.A2 lo.isSome hi.isSome) (a::(ls++hs)))else none
 | .fieldAddr t x f=>(fieldAt cx t f (one x)).bind λv=>some (put k v)
 | .indexAddr t x i=>(indexAt cx k t (one x) (one i)).bind λ(k,v)=>some (put k v)
 | .index t x i=>(cx.ty t).bind λti=>(k.one (one x)).bind λ(k,a)=>(k.one (one i)).bind λ(k,i)=>
   bif Nat.beq ti.kd 2 then lf (k.em .idx [a,i])else none
 | .extract x i=>match one x with
   | .tp vs=>(vs[i]?).bind λv=>some (put k (.v v.1 v.2))
   |_=>none
 | .makeFunc (.func f) first yN=>bif first.isEmpty then
   (yN.toList.mapM λx=>match one x with| .pt b 0=>some b|_=>none).bind λbs=>some (put k (.cl f bs))else none
 | .call c=>match c.callee,c.args.toList with
   | .builtin .len,[x]=>((c.argTypes[0]?).bind cx.ty).bind λti=>(k.one (one x)).bind λ(k,a)=>
     bif Nat.beq ti.kd 3 then lf (k.em .len [a])else bif Nat.beq ti.kd 2 then lf (k.em .lens [a])else none
   | .builtin .max,[x,y]=>(k.one (one x)).bind λ(k,a)=>(k.one (one y)).bind λ(k,b)=>lf (k.em .mx [a,b])
   | .builtin .min,[x,y]=>(k.one (one x)).bind λ(k,a)=>(k.one (one y)).bind λ(k,b)=>lf (k.em .mn [a,b])
   | .builtin .append,[x,y]=>match c.argTypes.toList with
    | [t,tx]=>(cx.ty t).bind λti=>(cx.ty tx).bind λtj=>(cx.ty ti.el).bind λte=>
     bif Nat.beq ti.kd 3&&Nat.beq tj.kd 3&&Nat.ble te.bytes 32768&&Nat.blt 0 te.sz then
     let sl:=te.zero.any fT
     (KD k (one x)).bind λ(k,a,dp)=>(A6 sl (cx.fz cJ fA oi) (k.ww (sl&& !cx.fz cJ fA oi) (one y)) (one y)).bind λ(k,b,vL)=>
     let(k,r):=k.em (.app (!sl) te.sz) [a,b]
     let id:=fw k.ct.i
     some (put {(k.set (.o id) (.ob (dp&&vL) r))with ct:=⟨k.ct.a,id+1⟩} (.v false [.o id []]))
     else none
    |_=>none
   | .value (.func g),xs=>(cx.sg g).bind λsg=>SI k d o.dst g sg (xs.map one)
   |_,_=>none
 |_=>none
def Fc:List Ce->List bE
 | []=>[]
 | .o id _::cs=>.o id::Fc cs
 |_::cs=>Fc cs
def agN:SV->List bE
 | .v _ cs=>Fc cs
 | .pt bx _=>[.x bx]
 | .ep id _ _ _ _=>[.o id]
 | .cl _ bs=>bs.map .x
 | .tp vs=>vs.flatMap λv=>Fc v.2
 | .fz (.w tk _ _) _=>[.o tk]
 |_=>[]
def wx(o:Oper):List Nat:=o.op.operands.toList.filterMap λ | .tmp t=>some t|_=>none
def deep(s:St):List bE->List bE
 | []=>[]
 |r::rs=>agN (s.get r)++deep s rs
def agO:Op->Bool
 | .move _| .assign _| .fieldAddr .. | .build .. | .box .. | .makeFunc .. | .nilCheck _| .alloc _| .extract ..=>false
 |_=>true
def agP:Op->Bool
 | .load .. | .call _=>true
 |_=>false
def KF:List bE->List bE
 | []=>[]
 | .o n::rs=>.o n::KF rs
 |_::rs=>KF rs
def KG:List bE->List bE
 | []=>[]
 | .x n::rs=>.x n::KG rs
 |_::rs=>KG rs
def Fe(d:Nat)(s:St)(o:Oper):List bE:=
 let ts:=(wx o).map (bE.t d)
 bif agO o.op then
  let m:=deep s ts
  let b:=deep s (KG m)
  ts++m++b++bif agP o.op then deep s (KF (m++b))else []
 else ts
def St.only(s:St):List bE->St
 | []=>[]
 |r::rs=>(r,s.get r)::St.only s rs
def St.fK(s:St):St->St
 | []=>s
 |(r,v)::w=>(St.fK s w).set r v
structure Tr where
 rd:List bE
 wr:List bE
def Ff(xs ys:List bE):Bool:=xs.any λx=>ys.any x.beq
def Fg(a b:Tr):Bool:=!Ff a.wr b.rd&& !Ff a.wr b.wr&& !Ff a.rd b.wr
def mC:List Nat->List Oper->List Nat
 |acc,[]=>acc
 |acc,o::os=>mC (acc++[o.after.toList.foldl (λs e=>bif Region.binds .any e&&Nat.blt e.on acc.length then s|||(2^e.on)|||(acc.getD e.on 0)else s) 0]) os
def yO:Nat->List Oper->Bool
 |_,[]=>true
 |i,o::os=>o.after.toList.all (λe=>!Region.binds .any e||Nat.blt e.on i)&&yO (i+1) os
def xJ(nt:Nat):Code->Bool
 | .region _ ops _=>ops.toList.all λo=>match o.dst with|some n=>Nat.blt n nt|none=>true
 | .seq a b=>xJ nt a&&xJ nt b
 | .cond _ a b=>xJ nt a&&xJ nt b
 | .block _ a=>xJ nt a
 | .loop a=>xJ nt a
 | .scope a=>xJ nt a
 |_=>true
def Fh(bj:Nat)(t:Tr):Nat->List Tr->Bool
 |_,[]=>true
 |i,u::us=>(Nat.testBit bj i||Fg u t)&&Fh bj t (i+1) us
def qk:List Tr->List Tr->List Nat->Bool
 |done,t::ts,b::bs=>Fh b t 0 done&&qk (done++[t]) ts bs
 |_,_,_=>true
def KH(s:SV):Option Lf:=
 match s with
 | .v false [.p x]=>some x
 |_=>none
inductive Dec where
 |nil
 |is (b:Bool)
 |ask (n:Nat)
 |no
def rI(fs:jZ)(s:SV):Dec:=
 match s with
 | .tp _=>.nil
 |s=>
 match KH s with
 |some (.k (.bool b))=>.is b
 |some (.a n)=>match fact fs n with
  |some b=>.is b
  |none=>.ask n
 |_=>.no
def wrap:List Fa->PL->PL
 | [],k=>k
 |i::is,k=>wrap is (.ins i k)
abbrev KP:=Nat->St->Ct->jZ->Option PL
def Fi(cx:Cx)(d:Nat)(s:St)(o:Oper):Option (Nat×List SV):=
 match o.op with
 | .call c=>match c.callee with
  | .value x=>match cn d s.get x with
   | .cl g bs=>match cx.sg g with
    |some _=>none
    |none=>some (g,c.args.toList.map (cn d s.get)++bs.map λb=>.pt b 0)
   |_=>none
  |_=>none
 |_=>none
abbrev nD:=Nat->Nat->List SV->Nat->St->Ct->jZ->(List SV->KP)->Option PL
def vM:List SV->Option (List (Bool×List Ce))
 | []=>some []
 | .v ag cs::vs=>(vM vs).bind λl=>some ((ag,cs)::l)
 |_=>none
def rp:List Fa->Nat
 | []=>0
 | .pr _ _::is=>rp is+1
 | .cl _ _ m::is=>rp is+m
def Lf.jx(a:Nat):Lf->Bool
 | .a n=>Nat.blt n a
 |_=>true
def sF:Nat->List Fa->Bool
 |_,[]=>true
 |e,.pr _ xs::is=>Nat.blt 0 e&&xs.all (Lf.jx (e-1))&&sF (e-1) is
 |e,.cl _ xs m::is=>Nat.ble m e&&xs.all (Lf.jx (e-m))&&sF (e-m) is
def As(d:Nat)(ops:Array Oper)(o:Oper):List bE:=
 match o.guard with
 |none=>[]
 |some (j,_)=>match(ops[j]?).bind (·.dst)with
  |some g=>[.t d g]
  |none=>[]
def wy(d:Nat)(s:St)(o:Oper)(fs:jZ):Option (Dec×SV×SV):=
 match o.op with
 | .pick c a b=>some (rI fs (cn d s.get c),cn d s.get a,cn d s.get b)
 |_=>none
abbrev Rec:=List Tr->Nat->St->Ct->jZ->Option PL
def Fj(d:Nat)(ops:Array Oper)(o:Oper)(rc:Rec)(tr:List Tr)(lv:Nat)(s:St)(ct:Ct)(fs:jZ):Option PL:=
 match o.dst with
 |some n=>rc (tr++[⟨As d ops o,[.t d n]⟩]) lv (s.set (.t d n) (.tp [])) ct fs
 |none=>rc (tr++[⟨As d ops o,[]⟩]) lv s ct fs
def yP(d:Nat)(ops:Array Oper)(o:Oper)(rc:Rec)(tr:List Tr)(lv:Nat)(s:St)(ct:Ct)(fs:jZ)(v:SV):Option PL:=
 match o.dst with
 |some n=>rc (tr++[⟨As d ops o++(wx o).map (bE.t d),[.t d n]⟩]) lv (s.set (.t d n) v) ct fs
 |none=>none
def Fk(d:Nat)(o:Oper)(rc:Rec)(tr:List Tr):List SV->KP:=λrs lv s ct fs=>
 match o.dst,rs with
 |none,_=>rc tr lv s ct fs
 |some n,[v]=>rc tr lv (s.set (.t d n) v) ct fs
 |some n,[]=>rc tr lv (s.set (.t d n) .un) ct fs
 |some n,rs=>(vM rs).bind λvs=>rc tr lv (s.set (.t d n) (.tp vs)) ct fs
def doO(cx:Cx)(di:nD)(cJ fA d:Nat)(ops:Array Oper)(draw:Bool)(o:Oper)(i:Nat)(rc:Rec)(tr:List Tr)(lv:Nat)(s:St)(ct:Ct)(fs:jZ):Option PL:=
 match wy d s o fs with
 |some (dc,a,b)=>
  match dc with
  | .is true=>yP d ops o rc tr lv s ct fs a
  | .is false=>yP d ops o rc tr lv s ct fs b
  | .ask n=>(yP d ops o rc tr lv s ct ((n,true)::fs) a).bind λx=>(yP d ops o rc tr lv s ct ((n,false)::fs) b).bind λy=>some (.ite n x y)
  | .nil| .no=>some (.r7 (cJ*100000000+2000000+fA*1000+i) [s])
 |none=>
  match Fi cx d s o with
  |some (g,vs)=>
   bif draw then some (.r7 (cJ*100000000+4000000+fA*1000+i) [s])else
   di (d+1) g vs lv s ct fs (Fk d o rc tr)
  |none=>
   match jf cx cJ fA d o i ⟨s.only (Fe d s o),[],ct,[]⟩with
   |none=>some (.r7 (cJ*100000000+1000000+fA*1000+i) [s.only (Fe d s o)])
   |some k=>
    bif Nat.beq k.ct.a (ct.a+rp k.is)&&Nat.ble ct.i k.ct.i&&sF k.ct.a k.is then
     (rc (tr++[⟨As d ops o++Fe d s o,k.w.map (·.1)⟩]) lv (s.fK k.w) k.ct fs).bind λp=>some (wrap k.is p)
    else none
def A8(cx:Cx)(di:nD)(cJ fA d:Nat)(ops:Array Oper)(draw:Bool)(o:Oper)(i:Nat)(rc:Rec)(tr:List Tr)(lv:Nat)(s:St)(ct:Ct)(fs:jZ):Option PL:=
 let run:=doO cx di cJ fA d ops draw o i rc tr lv s ct
 let skip:=Fj d ops o rc tr lv s ct
 match o.guard with
 |none=>run fs
 |some (j,iT)=>
  match(ops[j]?).bind (·.dst)with
  |none=>none
  |some g=>
   match rI fs (s.get (.t d g))with
   | .nil=>skip fs
   | .is b=>bif b==iT then run fs else skip fs
   | .ask n=>(bif true==iT then run ((n,true)::fs)else skip ((n,true)::fs)).bind λx=>
     (bif false==iT then run ((n,false)::fs)else skip ((n,false)::fs)).bind λy=>some (.ite n x y)
   | .no=>some (.r7 (cJ*100000000+3000000+fA*1000+i) [s])
def sG(cx:Cx)(di:nD)(cJ fA d:Nat)(ops:Array Oper)(draw:Bool)(fin:List Tr->KP):
  List Oper->Nat->Rec
 | [],_=>fin
 |o::os,i=>A8 cx di cJ fA d ops draw o i (sG cx di cJ fA d ops draw fin os (i+1))
inductive Ex where
 |normal
 |exit (id:Nat)
 |ret
def wC:np->np->Bool
 | [],[]=>true
 |(x,w,j)::p,(x',w',j')::q=>x.beq x'&&Nat.beq w w'&&Nat.beq j j'&&wC p q
 |_,_=>false
def Ce.beq:Ce->Ce->Bool
 | .p x,.p y=>x.beq y
 | .o i s,.o j t=>Nat.beq i j&&wC s t
 | .n,.n=>true
 | .d,.d=>true
 |_,_=>false
def wD:List Ce->List Ce->Bool
 | [],[]=>true
 |c::cs,e::es=>c.beq e&&wD cs es
 |_,_=>false
def yQ:List Nat->List Nat->Bool
 | [],[]=>true
 |c::cs,e::es=>Nat.beq c e&&yQ cs es
 |_,_=>false
def yR:List (Bool×List Ce)->List (Bool×List Ce)->Bool
 | [],[]=>true
 |(a,cs)::vs,(b,es)::us=>(a==b)&&wD cs es&&yR vs us
 |_,_=>false
def Pv.beq:Pv->Pv->Bool
 | .z,.z=>true
 | .w t x l,.w u y m=>Nat.beq t u&&x.beq y&&l.beq m
 |_,_=>false
def SV.beq:SV->SV->Bool
 | .un,_=>true
 | .v a cs,.v b es=>(a==b)&&wD cs es
 | .pt a b,.pt c d=>Nat.beq a c&&Nat.beq b d
 | .ep i p x w j,.ep i' q x' w' j'=>Nat.beq i i'&&wC p q&&x.beq x'&&Nat.beq w w'&&Nat.beq j j'
 | .fp s x w j,.fp s' x' w' j'=>s.beq s'&&x.beq x'&&Nat.beq w w'&&Nat.beq j j'
 | .tp vs,.tp us=>yR vs us
 | .cl f bs,.cl g cs=>Nat.beq f g&&yQ bs cs
 | .ob a x,.ob b y=>(a==b)&&x.beq y
 | .fz p x,.fz q y=>p.beq q&&x.beq y
 | .tk x m,.tk y n=>x.beq y&&m.beq n
 | .fl x,.fl y=>x.beq y
 | .fr x,.fr y=>x.beq y
 |_,_=>false
def ql(d:Nat)(s:St)(n:Nat)(bx:Bool):bE:=
 bif bx then match s.get (.t d n)with| .pt b _=>.x b|_=>.t d n else .t d n
def KI(d:Nat)(s:St)(r:bE):Js->Bool
 | []=>false
 |(_,_,.rows _)::js=>KI d s r js
 |(n,bx,_)::js=>(ql d s n bx).beq r||KI d s r js
def A9:Ct->List Ce->List Cj->Ct×List Ce×St×List Nat
 |ct,_,[]=>(ct,[],[],[])
 |ct,cs,j::js=>
  let c:=cs.headD .d
  match j with
  | .k=>let(ct,es,w,ds):=A9 ct cs.tail js;(ct,c::es,w,ds)
  | .p=>let(g_,es,w,ds):=A9 ⟨ct.a+1,ct.i⟩ cs.tail js;(g_,.p (.a ct.a)::es,w,ds)
  | .o dp=>
   let(g_,es,w,ds):=A9 ⟨ct.a+1,fw ct.i+1⟩ cs.tail js
   (g_,.o (fw ct.i) []::es,(.o (fw ct.i),.ob dp (.a ct.a))::w,match c with| .o id _=>id::ds|_=>ds)
  | .d=>let(ct,es,w,ds):=A9 ct cs.tail js;(ct,.d::es,w,match c with| .o id _=>id::ds|_=>ds)
def SK:SV->Option Nat
 | .fz (.w t _ _) _=>some t
 |_=>none
def A_(s:St)(cs:List Ce):Ct->List (Nat×Bool)->Ct×St×List Nat
 |ct,[]=>(ct,[],[])
 |ct,(j,dp)::js=>
  match cs[j]? with
  |some (.o id _)=>
   match SK (s.get (.o id))with
   |some t=>
    match s.get (.o t)with
    | .tk x _=>let(g_,w,ds):=A_ s cs ⟨ct.a+1,ct.i⟩ js;(g_,(.o t,.tk x (.a ct.a))::w,t::ds)
    |_=>A_ s cs ct js
   |none=>let(g_,w,ds):=A_ s cs ⟨ct.a+1,ct.i⟩ js;(g_,(.o id,.ob dp (.a ct.a))::w,id::ds)
  |_=>A_ s cs ct js
def pP:SV->List Ce
 | .v _ cs=>cs
 |_=>[]
def Fl(d:Nat)(s:St):Ct->Js->Ct×St×St×List Nat
 |ct,[]=>(ct,[],[],[])
 |ct,(_,_,.drop)::js=>Fl d s ct js
 |ct,(n,bx,.ft ag cj)::js=>
  let r:=ql d s n bx
  let(ct,es,w,ds):=A9 ct (pP (s.get r)) cj
  let(ct,ps,ws,dds):=Fl d s ct js
  (ct,(r,.v ag es)::ps,w++ws,ds++dds)
 |ct,(n,bx,.rows rj)::js=>
  let(ct,w,ds):=A_ s (pP (s.get (ql d s n bx))) ct rj
  let(ct,ps,ws,dds):=Fl d s ct js
  (ct,ps,w++ws,ds++dds)
def KJ(d:Nat)(s0:St)(js:Js)(ds:List Nat):St->St
 | []=>[]
 |(r,v)::s=>
  let gone:=match r with| .o id=>ds.any (Nat.beq id)|_=>false
  bif KI d s0 r js||gone then KJ d s0 js ds s else(r,v)::KJ d s0 js ds s
structure Head where
 s0:St
 kept:St
 new:St
 own:St
 c0:Ct
 ct:Ct
 js:Js
def Head.st(h:Head):St:=h.kept++h.own++h.new
def Fm(s:St):List Ce->List Cj->List (Nat×Bool)
 | .o id []::cs,.p::js=>(id,true)::Fm s cs js
 | .o id []::cs,.o false::js=>(id,false)::Fm s cs js
 |_::cs,_::js=>Fm s cs js
 |_,_=>[]
def Fo(cs:List Ce):List (Nat×Bool)->List (Nat×Bool)
 | []=>[]
 |(j,dp)::js=>
  match cs[j]? with
  |some (.o id _)=>bif dp then Fo cs js else(id,false)::Fo cs js
  |_=>Fo cs js
def wE(d:Nat)(s0 s:St):Js->List (Nat×Bool)
 | []=>[]
 |(_,_,.drop)::js=>wE d s0 s js
 |(n,bx,.ft _ cj)::js=>Fm s (pP (s.get (ql d s0 n bx))) cj++wE d s0 s js
 |(n,bx,.rows rj)::js=>Fo (pP (s0.get (ql d s0 n bx))) rj++wE d s0 s js
def Fp(s:St):List (Nat×Bool)->List Nat
 | []=>[]
 |(id,all)::l=>bif all then(match s.get (.o id)with| .ob _ _=>id::Fp s l|_=>Fp s l)else Fp s l
def Eu(d:Nat)(s:St)(ct:Ct)(js:Js):Head:=
 let(g_,ps,ws,ds):=Fl d s ct js
 {s0:=s,kept:=KJ d s js (Fp s (wE d s s js)++ds) s,new:=ps,own:=ws,c0:=ct,ct:=g_,js}
def uz(s:St):List (Nat×Bool)->St
 | []=>s
 |(id,all)::l=>
  match s.get (.o id)with
  | .ob _ x=>uz (s.set (.o id) (bif all then .fz .z x else .ob false x)) l
  |_=>uz s l
abbrev nr:=List (Nat×Option Nat)
def SL(s:St):List Ce->List Ce->List Cj->Option (List Lf×nr)
 | [],[],[]=>some ([],[])
 |c::cs,h::hs,j::js=>
  (SL s cs hs js).bind λ(xs,rn)=>
  match j with
  | .k| .d=>some (xs,rn)
  | .p=>match c with
   | .p x=>some (x::xs,rn)
   | .n=>some (.e::xs,rn)
   | .o id []=>match s.get (.o id)with
    | .fz _ x=>some (x::xs,rn)
    |_=>none
   |_=>none
  | .o dp=>match h with
   | .o i []=>match c with
    | .n=>some (.e::xs,(i,none)::rn)
    | .o id []=>match s.get (.o id)with
     | .ob _ x=>some (x::xs,(i,some id)::rn)
     |_=>none
    |_=>none
   |_=>none
 |_,_,_=>none
def A'(s0 s:St)(cs:List Ce):List (Nat×Bool)->Option (List Lf)
 | []=>some []
 |(j,dp)::js=>
  match cs[j]? with
  |some (.o id _)=>
   match SK (s0.get (.o id))with
   |some t=>
    match s0.get (.o t)with
    | .tk _ _=>match s.get (.o t)with
     | .tk _ m=>(A' s0 s cs js).bind λxs=>some (m::xs)
     |_=>none
    |_=>A' s0 s cs js
   |none=>match s.get (.o id)with
    | .ob _ x=>(A' s0 s cs js).bind λxs=>some (x::xs)
    |_=>none
  |_=>A' s0 s cs js
def Fq(d:Nat)(s0 s:St):St->Js->Option (List Lf×nr)
 |ps,(_,_,.drop)::js=>Fq d s0 s ps js
 |(r',.v ag hs)::ps,(n,bx,.ft xI cj)::js=>
  (SL s (pP (s.get (ql d s0 n bx))) hs cj).bind λ(xs,rn)=>(Fq d s0 s ps js).bind λ(ys,rm)=>some (xs++ys,rn++rm)
 |ps,(n,bx,.rows rj)::js=>
  (A' s0 s (pP (s0.get (ql d s0 n bx))) rj).bind λxs=>(Fq d s0 s ps js).bind λ(ys,rm)=>some (xs++ys,rm)
 | [],[]=>some ([],[])
 |_,_=>none
def yS(a:Nat):np->Bool
 | []=>true
 |(x,_,_)::q=>x.jx a&&yS a q
def Ce.jx(a i:Nat):Ce->Bool
 | .p x=>x.jx a
 | .o id q=>Nat.blt id i&&yS a q
 |_=>true
def qm(a i:Nat):List Ce->Bool
 | []=>true
 |c::cs=>c.jx a i&&qm a i cs
def yT(a i:Nat):List (Bool×List Ce)->Bool
 | []=>true
 |v::vs=>qm a i v.2&&yT a i vs
def Pv.jx(a i:Nat):Pv->Bool
 | .z=>true
 | .w t x l=>Nat.blt t i&&x.jx a&&l.jx a
def SV.jx(a i:Nat):SV->Bool
 | .un=>true
 | .v _ cs=>qm a i cs
 | .pt b _=>Nat.blt b i
 | .ep id q x _ _=>Nat.blt id i&&yS a q&&x.jx a
 | .fp s x _ _=>s.jx a&&x.jx a
 | .tp vs=>yT a i vs
 | .cl _ bs=>bs.all λb=>Nat.blt b i
 | .ob _ x=>x.jx a
 | .fz p x=>p.jx a i&&x.jx a
 | .tk x m=>x.jx a&&m.jx a
 | .fl x=>x.jx a
 | .fr x=>x.jx a
def n9:nr->Nat->Option (Option Nat)
 | [],_=>none
 |(j,x)::rn,i=>bif Nat.beq j i then some x else n9 rn i
def nE:nr->Nat->Option Nat
 | [],_=>none
 |(j,some x)::rn,i=>bif Nat.beq x i then some j else nE rn i
 |(_,none)::rn,i=>nE rn i
def oA(a0:Nat)(xs:List Lf)(n:Nat)(x:Lf):Bool:=
 Nat.ble a0 n&&(match xs[n-a0]? with|some y=>y.beq x|none=>false)
def KK(s:St)(a0 i0:Nat)(xs:List Lf)(rn:nr)(c h:Ce):Bool:=
 (h.beq c&&h.jx a0 i0)||
 match h,c with
 | .p (.a n),.p x=>oA a0 xs n x
 | .p (.a n),.n=>oA a0 xs n .e
 | .p (.a n),.o id []=>(match s.get (.o id)with| .fz _ x=>oA a0 xs n x|_=>false)
 | .o j [],.n=>Nat.ble i0 j&&(match n9 rn j with|some none=>true|_=>false)
 | .o j [],.o id []=>Nat.ble i0 j&&(match n9 rn j with|some (some k)=>Nat.beq k id|_=>false)
 | .d,_=>true
 |_,_=>false
def qn(s:St)(a0 i0:Nat)(xs:List Lf)(rn:nr):List Ce->List Ce->Bool
 | [],[]=>true
 |c::cs,h::hs=>KK s a0 i0 xs rn c h&&qn s a0 i0 xs rn cs hs
 |_,_=>false
def yU(s:St)(a0 i0:Nat)(xs:List Lf)(rn:nr):St->Bool
 | []=>true
 |(r,.v ag hs)::ps=>
  (match r with| .o _=>false| .x b=>Nat.blt b i0| .t _ _=>true)&&
  (match s.get r with| .v xI cs=>(ag==xI)&&qn s a0 i0 xs rn cs hs|_=>false)&&yU s a0 i0 xs rn ps
 |_::_=>false
def wF(s:St)(a0 i0:Nat)(xs:List Lf)(rn:nr):St->Bool
 | []=>true
 |(.o j,.ob dp (.a n))::ps=>
  (match n9 rn j with
   |some (some id)=>Nat.ble i0 j&&(match s.get (.o id)with| .ob vL x=>(dp==vL)&&oA a0 xs n x|_=>false)
   |some none=>Nat.ble i0 j&&oA a0 xs n .e
   |none=>Nat.blt j i0&&(match nE rn j with|none=>true|some _=>false)&&(match s.get (.o j)with| .ob vL x=>(dp==vL)&&oA a0 xs n x|_=>false))&&
  wF s a0 i0 xs rn ps
 |(.o j,.tk x (.a n))::ps=>
  (Nat.blt j i0&&(match nE rn j with|none=>true|some _=>false)&&x.jx a0&&(match s.get (.o j)with| .tk y m=>x.beq y&&oA a0 xs n m|_=>false))&&
  wF s a0 i0 xs rn ps
 |_::_=>false
def SV.isU:SV->Bool
 | .un=>true
 |_=>false
def SM(i0:Nat)(rn:nr):bE->Bool
 | .o id=>Nat.blt id i0&&(match nE rn id with|none=>true|some _=>false)
 | .x b=>Nat.blt b i0
 | .t _ _=>true
def Ft(s:St)(a0 i0:Nat)(rn:nr):St->Bool
 | []=>true
 |(r,v)::h=>(v.isU||(v.beq (s.get r)&&v.jx a0 i0&&SM i0 rn r))&&Ft s a0 i0 rn h
def uA(i0 i1:Nat)(all:nr):nr->Bool
 | []=>true
 |(j,x)::rn=>Nat.ble i0 j&&Nat.blt j i1&&Nat.beq (j%2) 0&&(match x with|none=>true|some id=>!Nat.beq (id%4) 2&&(match nE all id with|some k=>Nat.beq k j|none=>false))&&uA i0 i1 all rn
def KL(h:Head)(s:St)(xs:List Lf)(rn:nr):Bool:=
 Nat.beq (h.c0.a+xs.length) h.ct.a&&Nat.blt 0 h.ct.i&&Nat.ble h.c0.i h.ct.i&&uA h.c0.i h.ct.i rn rn&&Ft s h.c0.a h.c0.i rn h.kept&&wF s h.c0.a h.c0.i xs rn h.own&&yU s h.c0.a h.c0.i xs rn h.new
def gT(d:Nat)(h:Head)(s:St):Option (List Lf):=
 let s1:=uz s (wE d h.s0 s h.js)
 (Fq d h.s0 s1 h.new h.js).bind λ(xs,rn)=>bif KL h s1 xs rn then some xs else none
abbrev KE:=Ex->KP
def sH(d:Nat):St->St
 | []=>[]
 |(.t e n,v)::s=>bif Nat.ble d e then sH d s else(.t e n,v)::sH d s
 |x::s=>x::sH d s
def iF(s:St)(cs:List Ce):List (Nat×Bool)->St
 | []=>s
 |(j,all)::js=>
  match cs[j]? with
  |some (Ce.o id _)=>match s.get (.o id)with
   | .ob _ x=>iF (s.set (.o id) (bif all then .fz .z x else .ob false x)) cs js
   |_=>iF s cs js
  |_=>iF s cs js
def jO(d:Nat)(s:St):Js->St
 | []=>s
 |(n,bx,.rows js)::l=>
  let cs:=pP (s.get (ql d s n bx))
  jO d (iF s cs js) l
 |_::l=>jO d s l
def iL(s:St)(ct:Ct)(cs:List Ce):List (Nat×Bool)->St×Ct
 | []=>(s,ct)
 |(j,_)::js=>
  match cs[j]? with
  |some (Ce.o id [])=>match s.get (.o id)with
   | .ob true x=>bif Nat.beq (id%2) 0 then iL ((s.set (.o id) (.fz (.w (nq ct.i) x (.k (.int .i64 0))) x)).set (.o (nq ct.i)) (.tk x x)) ⟨ct.a,nq ct.i+1⟩ cs js else iL s ct cs js
   |_=>iL s ct cs js
  |_=>iL s ct cs js
def j6(d:Nat)(s:St)(ct:Ct):Js->St×Ct
 | []=>(s,ct)
 |(n,bx,.rows js)::l=>
  let r:=iL s ct (pP (s.get (ql d s n bx))) js
  j6 d r.1 r.2 l
 |_::l=>j6 d s ct l
def SN(d:Nat)(h:Head)(lv tag:Nat):KP:=λlv2 s' g_ jC=>
 match gT d h s' with
 |some xs=>some (.go (lv2-lv-1) xs)
 |none=>some (.r7 tag [h.st,s'])
def Ba(d:Nat)(h:Head)(lv tag:Nat)(K:KE):KE:=λe=>
 match e with
 | .normal=>SN d h lv tag
 |e=>K e
def Fu(id:Nat)(K:KE):KE:=λe=>
 match e with
 | .exit i=>bif Nat.beq i id then K .normal else K (.exit i)
 |e=>K e
def agR(cJ id:Nat)(ops:Array Oper)(draw:Bool)(k:KP):List Tr->KP:=λtr lv s ct fs=>
 bif draw then
  bif qk [] tr (mC [] ops.toList)&&yO 0 ops.toList then k lv s ct fs else some (.r7 (cJ*100000000+100000+id) [])
 else k lv s ct fs
def wG(n i:Nat):Array Bool:=(List.replicate i true++List.replicate (n-i) false).toArray
def KM(ops:Array Oper):Bool:=
 match ops.toList with
 | []=>false
 |o::os=>(o::os).all (λx=>match x.op with| .select ..=>false|_=>true)&&o.guard.isNone&&(match o.op with| .move _=>true|_=>false)&&o.after.toList.all (λe=>!Region.binds .any e)&&
   os.all λy=>y.after.toList.any (λe=>Region.binds .any e&&Nat.beq e.on 0)||o.apart ops y
def Fv(ops:Array Oper)(c:Nat)(h:Bool):Bool:=
 Nat.blt c ops.size&&((List.range' c (ops.size-c)).all λj=>(List.range j).all λu=>(h&&Nat.beq u 0)||Nat.testBit ((mC [] ops.toList).getD j 0) u)&&(!h||(KM ops&&Nat.blt 0 c))
def agS(cx:Cx)(cJ id:Nat):Option (Nat×Bool):=match cx.rH cJ 6 id with|some ((c,h,_)::_)=>some (c,h)|_=>none
def Fw(cx:Cx)(di:nD)(cJ id d:Nat)(ops:Array Oper)(draw:Bool)(k:KP)(lv:Nat)(s:St)(ct:Ct)(fs:jZ):Option PL:=
 match(bif draw then agS cx cJ id else none)with
 |none=>sG cx di cJ id d ops draw (agR cJ id ops draw k) ops.toList 0 [] lv s ct fs
 |some (c,h)=>
  sG cx di cJ id d ops true (λtr lv s ct fs=>bif qk [] tr (mC [] ops.toList)&&(yO 0 ops.toList&&Fv ops c h)then sG cx di cJ id d ops false (λ_=>k) (ops.toList.drop c) c [] lv s ct fs else some (.r7 (cJ*100000000+100000+id) []))
   (ops.toList.take c) 0 [] lv s ct fs
def Fx(tag:Nat)(v:SV)(cx cy:jZ->Option PL)(s:St)(fs:jZ):Option PL:=
 match rI fs v with
 | .is b=>bif b then cx fs else cy fs
 | .ask n=>(cx ((n,true)::fs)).bind λp=>(cy ((n,false)::fs)).bind λq=>some (.ite n p q)
 | .nil| .no=>some (.r7 tag [s])
def KN(cx:Cx)(cJ d id:Nat)(s:St):St:=match cx.rH cJ 4 id with|none=>s|some js=>jO d s js
def Fy(cx:Cx)(cJ d id:Nat)(s:St)(ct:Ct):St×Ct:=match cx.rH cJ 5 id with|none=>(s,ct)|some js=>j6 d s ct js
def comp(cx:Cx)(di:nD)(cJ d:Nat):Code->Nat->Nat->St->Ct->jZ->KE->Option PL
 | .skip,_,lv,s,ct,fs,K=>K .normal lv s ct fs
 | .label _,_,lv,s,ct,fs,K=>K .normal lv s ct fs
 | .seq a b,_,lv,s,ct,fs,K=>
  comp cx di cJ d a 0 lv s ct fs λe=>
   match e with
   | .normal=>λlv s ct fs=>comp cx di cJ d b 0 lv s ct fs K
   |e=>K e
 | .region id ops draw,_,lv,s0,ct0,fs,K=>
  let r5:=Fy cx cJ d id (KN cx cJ d id s0) ct0
  let s:=r5.1
  let ct:=r5.2
  match cx.rH cJ 1 id with
  |none=>Fw cx di cJ id d ops draw (K .normal) lv s ct fs
  |some js=>
   let h:=Eu d s ct js
   (K .normal lv h.st h.ct fs).bind λk=>
    (Fw cx di cJ id d ops draw (SN d h lv (cJ*100000000+200000+id)) (lv+1) s ct fs).bind λb=>some (.join k b)
 | .cond c x y,_,lv,s,ct,fs,K=>
  let key:=match c with| .tmp t=>t|_=>0
  match cx.rH cJ 2 key with
  |none=>Fx (cJ*100000000+5000000+key) (cn d s.get c) (λfs=>comp cx di cJ d x 0 lv s ct fs K) (λfs=>comp cx di cJ d y 0 lv s ct fs K) s fs
  |some js=>
   let h:=Eu d s ct js
   (K .normal lv h.st h.ct fs).bind λk=>
    (Fx (cJ*100000000+5000000+key) (cn d s.get c) (λfs=>comp cx di cJ d x 0 (lv+1) s ct fs (Ba d h lv (cJ*100000000+300000+key) K))
     (λfs=>comp cx di cJ d y 0 (lv+1) s ct fs (Ba d h lv (cJ*100000000+300000+key) K)) s fs).bind λb=>some (.join k b)
 | .block id body,_,lv,s,ct,fs,K=>
  match cx.rH cJ 3 id with
  |none=>comp cx di cJ d body id lv s ct fs (Fu id K)
  |some js=>
   let h:=Eu d s ct js
   (K .normal lv h.st h.ct fs).bind λk=>
    (comp cx di cJ d body id (lv+1) s ct fs (Fu id (Ba d h lv (cJ*100000000+400000+id) K))).bind λb=>some (.join k b)
 | .loop body,wH,lv,s,ct,fs,K=>
  match cx.rH cJ 0 wH with
  |none=>some (.r7 (cJ*100000000+500000+wH) [s])
  |some js=>
   let h:=Eu d s ct js
   match gT d h s with
   |none=>some (.r7 (cJ*100000000+600000+wH) [h.st,s])
   |some xs=>(comp cx di cJ d body 0 (lv+1) h.st h.ct fs (Ba d h lv (cJ*100000000+700000+wH) K)).bind λb=>some (.loop xs b)
 | .exit id,_,lv,s,ct,fs,K=>K (.exit id) lv s ct fs
 | .ret,_,lv,s,ct,fs,K=>K .ret lv s ct fs
 |_,_,_,_,_,_,_=>some (.r7 (cJ*100000000+6000000) [])
def results(cx:Cx)(d:Nat)(s:St):List ResultVar->Option (List SV)
 | []=>some []
 | .tmp t::rs=>(results cx d s rs).bind λvs=>some (s.get (.t d t)::vs)
 | .cell a t::rs=>(cx.ty t).bind λti=>
  match s.get (.t d a)with
  | .pt bx off=>match s.get (.x bx)with
   | .v _ cs=>bif Nat.ble (off+ti.sz) cs.length then(results cx d s rs).bind λvs=>some (.v ti.ag ((cs.drop off).take ti.sz)::vs)else none
   |_=>none
  |_=>none
def wI(d:Nat)(s:St):Nat->List SV->St
 |_,[]=>s
 |i,v::vs=>wI d (s.set (.t d i) v) (i+1) vs
def Fz(cx:Cx):Nat->nD
 |0=>λ_ _ _ _ _ _ _ _=>none
 |n+1=>λd g vs lv s ct fs k=>
  (cx.fn g).bind λfn=>fn.body.bind λc=>
   bif Nat.ble vs.length fn.ntmps&&xJ fn.ntmps c then
    comp cx (Fz cx n) g d c 0 lv (wI d (sH d s) 0 vs) ct fs λe lv s ct fs=>
     match e with
     | .exit _=>none
     |_=>(results cx d s fn.results.toList).bind λrs=>k rs lv (sH d s) ct fs
   else none
def FA:List Ce->List Ck->List (Nat×Bool)
 | .o id _::cs,.p::ks=>(id,true)::FA cs ks
 | .o id _::cs,.o false::ks=>(id,false)::FA cs ks
 |_::cs,_::ks=>FA cs ks
 |_,_=>[]
def FB:List SV->List (Bool×List Ck)->List (Nat×Bool)
 |v::vs,r::rs=>FA (pP v) r.2++FB vs rs
 |_,_=>[]
def Bb(s:St):Nat->List PS->List (Nat×Bool)
 |_,[]=>[]
 |i,.v _ _::ps=>Bb s (i+1) ps
 |i,.x _::ps=>(wJ (pP (s.get (.x i)))).map (λid=>(id,true))++Bb s (i+1) ps
 where
 wJ:List Ce->List Nat
  | []=>[]
  | .o id _::cs=>id::wJ cs
  |_::cs=>wJ cs
def Wk.plain(k:Wk):Ce->Option Lf
 | .p x=>some x
 | .n=>some .e
 | .o id []=>match k.get (.o id)with
  | .fz _ x=>some x
  |_=>none
 |_=>none
def Wk.qo(k:Wk):List Ce->Option (List Lf)
 | []=>some []
 |c::cs=>(k.plain c).bind λx=>(Wk.qo k cs).bind λxs=>some (x::xs)
def mz(k:Wk):List Ce->List Ck->Option (Wk×List Lf×List Nat)
 | [],[]=>some (k,[],[])
 | .o id []::cs,.o dp::ks=>
  match k.get (.o id)with
  | .ob vL x=>bif vL==dp&& !Nat.beq (id%4) 2 then(mz k cs ks).bind λ(k,xs,ids)=>some (k,x::xs,id::ids)else none
  |_=>none
 | .n::cs,.o _::ks=>(mz k cs ks).bind λ(k,xs,ids)=>some (k,.e::xs,ids)
 | .p x::cs,.s::ks=>
  (mz k cs ks).bind λ(k,xs,ids)=>
   let(k,y):=k.em .bM [x]
   some (k,y::xs,ids)
 |c::cs,.p::ks=>(k.plain c).bind λx=>(mz k cs ks).bind λ(k,xs,ids)=>some (k,x::xs,ids)
 |_,_=>none
def me(k:Wk):List SV->List (Bool×List Ck)->Option (Wk×List Lf×List Nat)
 | [],[]=>some (k,[],[])
 | .v ag cs::vs,(xI,ks)::rs=>bif ag==xI then
   (me k vs rs).bind λ(k,ys,jds)=>(mz k cs ks).bind λ(k,xs,ids)=>some (k,xs++ys,ids++jds)
  else none
 |_,_=>none
def yV(k:Wk):Nat->List PS->Option (List Lf)
 |_,[]=>some []
 |i,.v _ _::ps=>yV k (i+1) ps
 |i,.x n::ps=>
  match k.get (.x i)with
  | .v _ cs=>bif Nat.beq cs.length n then(k.qo cs).bind λxs=>(yV k (i+1) ps).bind λys=>some (xs++ys)else none
  |_=>none
def vN:Nat->Nat->List PS->Nat×St
 |a,_,[]=>(a,[])
 |a,i,.v ag n::ps=>
  let r:=vN (a+n) (i+1) ps
  (r.1,(.t 0 i,.v ag (Et a n))::r.2)
 |a,i,.x n::ps=>
  let r:=vN (a+n) (i+1) ps
  (r.1,(.t 0 i,.pt i 0)::(.x i,.v true (Et a n))::r.2)
def KO(cx:Cx)(fn:Func)(sg:nZ):KP:=λlv s ct fs=>
 (results cx 0 s fn.results.toList).bind λvs=>
  let s1:=uz s (FB vs sg.rs++Bb s 0 sg.ps)
  match me ⟨s1,[],ct,[]⟩ vs sg.rs with
  |none=>some (.r7 90 [s1,vs.map λv=>(.x 0,v)])
  |some (k,xs,ids)=>
   match yV k 0 sg.ps with
   |none=>some (.r7 91 [s1])
   |some ys=>
    bif wv ids then
     bif Nat.beq k.ct.a (ct.a+rp k.is)&&sF k.ct.a k.is then some (wrap k.is (.ret (xs++ys)))else none
    else some (.r7 92 [])
def FC(sg:nZ):Bool:=!(qj sg&&sg.rs.any λr=>r.2.any λ | .o true=>true|_=>false)
def Bc(cx:Cx)(n cJ:Nat)(fn:Func)(sg:nZ):Option PL:=
 fn.body.bind λc=>
  let r:=vN 0 0 sg.ps
  bif xJ fn.ntmps c&&Nat.ble sg.ps.length fn.ntmps&&FC sg then
   comp cx (Fz cx n) cJ 0 c 0 0 r.2 ⟨r.1,sg.ps.length+1⟩ [] λe=>
    match e with
    | .exit _=>λ_ _ _ _=>none
    |_=>KO cx fn sg
  else none
theorem Lf.beq_eq{x y:Lf}(h:x.beq y=true):x=y:=by
 cases x with
 |k v=>
  cases y with
  |k u=>
   cases v<;>cases u<;>simp_all[Lf.beq]
   exact ByteArray.ext h
  |a m=>simp[Lf.beq]at h
  |e=>simp[Lf.beq]at h
 |a n=>
  cases y with
  |a m=>simp[Lf.beq]at h;rw[h]
  |k u=>simp[Lf.beq]at h
  |e=>simp[Lf.beq]at h
 |e=>cases y<;>simp[Lf.beq]at h;rfl
inductive Lb where
 |f
 |x (b:Nat)
 |o (id:Nat) (p:List (Nat×Nat))
def Lb.id:Lb->Nat
 | .f=>0
 | .x b=>b
 | .o i _=>i
structure Gh where
 ω:Nat->Option Lb
 β:Nat->Nat
 H:Nat->List (Nat×Nat)->Value
 hs:∀i p,∃a n c,H i p=.slice a n c
def qt:Lb->Bool
 | .o i p=>Nat.beq (i%4) 2||(Nat.beq (i%2) 0&& !p.isEmpty)
 |_=>false
def qf(ω:Nat->Option Lb):Nat->Option Lb:=λb=>match ω b with
 |some l=>bif qt l then none else some l
 |none=>none
theorem Bd{ω:Nat->Option Lb}{b:Nat}(h:ω b=none):qf ω b=none:=by simp[qf,h]
theorem Be{ω:Nat->Option Lb}{b:Nat}{l:Lb}(h:ω b=some l)(hq:qt l=false):qf ω b=some l:=by simp[qf,h,hq]
theorem SO{ω:Nat->Option Lb}{b:Nat}{l:Lb}(h:ω b=some l)(hq:qt l=true):qf ω b=none:=by simp[qf,h,hq]
theorem SP{ω:Nat->Option Lb}{b:Nat}(h:qf ω b=none):ω b=none∨∃l,ω b=some l∧qt l=true:=by
 unfold qf at h
 split at h
 ·rename_i l hl
  cases hq:qt l with
  |true=>exact .inr ⟨l,hl,hq⟩
  |false=>simp[hq]at h
 ·rename_i hl;exact .inl hl
theorem wK{ω:Nat->Option Lb}{b:Nat}{l:Lb}(h:ω b=some l)(hq:qt l=false):qf ω b≠none:=by rw[Be h hq];simp
theorem uB{ω wL:Nat->Option Lb}{b:Nat}(h:qf ω b=none)(hn:ω b=none->wL b=none)(hl:∀l,ω b=some l->qt l=true->wL b=none∨∃l',wL b=some l'∧qt l'=true):qf wL b=none:=by
 rcases SP h with h0|⟨l,h1,h2⟩
 ·exact Bd (hn h0)
 ·rcases hl l h1 h2 with h3|⟨l',h3,h4⟩
  ·exact Bd h3
  ·exact SO h3 h4
def Gh.q(G:Gh):Nat->Option Lb:=qf G.ω
theorem KQ{G:Gh}{b:Nat}{l:Lb}(h:G.q b=some l):G.ω b=some l:=by
 unfold Gh.q qf at h
 split at h
 ·rename_i l' hl
  cases hq:qt l' with
  |true=>simp[hq]at h
  |false=>simp[hq]at h;rw[hl,h]
 ·cases h
theorem Gh.wM{G G':Gh}{b:Nat}(h:G'.ω b=G.ω b):G'.q b=G.q b:=by simp only[Gh.q,qf,h]
theorem KR{ρ:List T}{id:Nat}{p:List (Nat×Nat)}(h:p=[]∨id%2=1)(h2:id%4≠2):qt (.o id p)=false:=by
 have e1:Nat.beq (id%4) 2=false:=by
  cases hb:Nat.beq (id%4) 2 with
  |false=>rfl
  |true=>exact absurd (ef hb) h2
 rcases h with rfl|h
 ·simp[qt,e1]
 ·have e2:Nat.beq (id%2) 0=false:=by rw[h];rfl
  simp[qt,e1,e2]
theorem sJ{id:Nat}(h2:id%4≠2):qt (.o id [])=false:=KR (ρ:=[]) (.inl rfl) h2
theorem wN{i:Nat}{p:List (Nat×Nat)}(hi:i%2=0)(hp:p≠[]):qt (.o i p)=true:=by
 cases p with
 |nil=>exact absurd rfl hp
 |cons x p=>simp[qt,hi]
theorem KS{i:Nat}{p:List (Nat×Nat)}(hi:i%4=2):qt (.o i p)=true:=by simp[qt,hi]
def d_(xs:List (List T))(i j:Nat):Option T:=xs[i]?.bind (·[j]?)
inductive fm (ω:Nat->Option Lb) (w:World):T->Value->Prop
 |c {v:Value} (h:kW v=true):fm ω w (.c v) v
 |nil {a:Option Addr} {cap:Nat}:fm ω w (.l []) (.slice a 0 cap)
 |l {xs:List (List T)} {b off wd cap:Nat} {cv:Nat->Nat->Value} (hw:∀r∈xs,r.length=wd) (hc:xs.length<=cap)
   (hb:ω b=none) (bf:b<w.heap.size)
   (h1:∀i j t,d_ xs i j=some t->w.cell? ⟨b,off+(i*wd+j),none⟩=some (cv i j))
   (h2:∀i j t,d_ xs i j=some t->fm ω w t (cv i j)):fm ω w (.l xs) (.slice (some ⟨b,off,none⟩) xs.length cap)
inductive fB (G:Gh) (w:World) (id:Nat):Bool->List (Nat×Nat)->T->Prop
 |nil {dp:Bool} {p:List (Nat×Nat)} (hH:G.H id p=.slice none 0 0):fB G w id dp p (.l [])
 |l {dp:Bool} {p:List (Nat×Nat)} {xs:List (List T)} {b wd cap:Nat} {b9:Array Value} {elem:TypeId} {cv:Nat->Nat->Value}
   (hH:G.H id p=.slice (some ⟨b,0,none⟩) xs.length cap) (hc:xs.length<=cap∧(xs=[]->cap=0)) (iq:G.ω b=some (.o id p))
   (hh:w.heap[b]?=some (.cells b9 elem (0,0))) (hs:b9.size=cap*wd) (hw:∀r∈xs,r.length=wd)
   (h1:∀i j t,d_ xs i j=some t->b9[i*wd+j]?=some (cv i j))
   (hv:∀i j v,d_ xs i j=some (.c v)->cv i j=v∧kW v=true)
   (hp:∀i j ys,d_ xs i j=some (.l ys)->dp=false->fm G.q w (.l ys) (cv i j))
   (hq:∀i j ys,d_ xs i j=some (.l ys)->dp=true->cv i j=G.H id (p++[(i,j)]))
   (ho:∀i j ys,d_ xs i j=some (.l ys)->dp=true->fB G w id true (p++[(i,j)]) (.l ys)):fB G w id dp p (.l xs)
def Lf.fW(ρ:List T):Lf->Option T
 | .k v=>bif kW v then some (.c v)else none
 | .a n=>ρ[n]?
 | .e=>some (.l [])
theorem Lf.bW{ρ:List T}{x:Lf}{t:T}(h:x.fW ρ=some t):x.ev ρ=t:=by
 cases x with
 |k v=>simp only[Lf.fW]at h;cases hs:kW v<;>simp[hs]at h;simp[Lf.ev,h]
 |a n=>simp only[Lf.fW]at h;simp[Lf.ev,List.getD,h]
 |e=>simpa[Lf.fW,Lf.ev]using h
def mf(ρ:List T)(x:Lf):Option Nat:=
 match x.fW ρ with
 |some (.c (.int _ n))=>if 0<=n then some n.toNat else none
 |_=>none
def gU(ρ:List T):np->Option (List (Nat×Nat))
 | []=>some []
 |(x,_,j)::q=>(mf ρ x).bind λi=>(gU ρ q).bind λp=>some ((i,j)::p)
def lE(ρ:List T)(id:Nat)(q:np):Option (List (Nat×Nat)):=
 match q with
 | []=>some []
 |x::q=>if id%2=1 then gU ρ (x::q)else none
theorem mD{ρ:List T}{id:Nat}:lE ρ id []=some []:=rfl
theorem uC{ρ:List T}{id:Nat}{q:np}{p:List (Nat×Nat)}(h:lE ρ id q=some p):gU ρ q=some p:=by
 cases q with
 |nil=>exact h
 |cons x q=>
  simp only[lE]at h
  split at h
  ·exact h
  ·cases h
theorem FD{ρ:List T}{id:Nat}{q:np}{p:List (Nat×Nat)}(h:lE ρ id q=some p):p=[]∨id%2=1:=by
 cases q with
 |nil=>simp only[lE,bG]at h;exact .inl h.symm
 |cons x q=>
  simp only[lE]at h
  split at h
  ·exact .inr (by assumption)
  ·cases h
theorem agT{ρ:List T}{id:Nat}{q:np}{p:List (Nat×Nat)}(h:gU ρ q=some p)(hi:id%2=1):lE ρ id q=some p:=by
 cases q with
 |nil=>exact h
 |cons x q=>simp only[lE,if_pos hi];exact h
def gv(G:Gh)(w:World)(ρ:List T):Ce->Value->Prop
 | .p x,c=>∃t,x.fW ρ=some t∧fm G.q w t c
 | .o id q,c=>∃p,lE ρ id q=some p∧c=G.H id p
 | .n,c=>c=.slice none 0 0
 | .d,c=>c.oneCell'=true
def bk(G:Gh)(w:World)(ρ:List T):List Ce->List Value->Prop
 | [],[]=>True
 |c::cs,v::vs=>gv G w ρ c v∧bk G w ρ cs vs
 |_,_=>False
def fC(G:Gh)(w:World)(ρ:List T)(ag:Bool)(cs:List Ce)(c:Value):Prop:=
 match ag with
 |true=>∃vs:List Value,c=.agg vs.toArray∧bk G w ρ cs vs
 |false=>∃e,cs=[e]∧gv G w ρ e c∧∀a,c≠.agg a
def gK(G:Gh)(w:World)(ρ:List T):List (Bool×List Ce)->List Value->Prop
 | [],[]=>True
 |c::cs,v::vs=>fC G w ρ c.1 c.2 v∧gK G w ρ cs vs
 |_,_=>False
def cK(G:Gh)(w:World)(ρ:List T):SV->Value->Prop
 | .un,_=>True
 | .v ag cs,c=>fC G w ρ ag cs c
 | .pt b off,c=>c=.pointer (some ⟨G.β b,off,none⟩)
 | .ep id q ix wd off,c=>∃p b n cap i,lE ρ id q=some p∧G.H id p=.slice (some ⟨b,0,none⟩) n cap∧mf ρ ix=some i∧i<n∧
   c=.pointer (some ⟨b,i*wd+off,none⟩)
 | .fp s ix wd off,c=>∃xs i r b base,s.fW ρ=some (.l xs)∧mf ρ ix=some i∧xs[i]?=some r∧c=.pointer (some ⟨b,base+off,none⟩)∧
   (r.length=wd->G.q b=none∧b<w.heap.size∧∀j t,r[j]?=some t->∃u,w.cell? ⟨b,base+j,none⟩=some u∧fm G.q w t u)
 | .tp vs,c=>∃us:List Value,c=.tuple us.toArray∧gK G w ρ vs us
 | .cl f bs,c=>c=.func (.func f) #[] (bs.map λb=>Value.pointer (some ⟨G.β b,0,none⟩)).toArray
 | .ob _ _,_=>False
 | .fz _ _,_=>False
 | .tk _ _,_=>False
 | .fl _,_=>False
 | .fr _,_=>False
def gk(G:Gh)(w:World)(ρ:List T)(b:Nat):SV->Prop
 | .v _ cs=>G.ω (G.β b)=some (.x b)∧∃b9 elem,w.heap[G.β b]?=some (.cells b9 elem (0,0))∧bk G w ρ cs b9.toList
 | .un=>True
 |_=>False
def ph(w:World)(H:List (Nat×Nat)->Value)(n:Nat)(v:Value)(zs:List (List T)):Prop:=
 ∀b off k c,v=.slice (some ⟨b,off,none⟩) k c->∃wd,(∀r∈zs,r.length=wd)∧∀i j ys,d_ zs i j=some (.l ys)->w.cell? ⟨b,off+(i*wd+j),none⟩=some (H [(n+i,j)])
def xK(G:Gh)(w:World)(ρ:List T)(v:Value)(t:T):Pv->Prop
 | .z=>True
 | .w tk x lo=>tk%4=2∧∃F n zs,x.fW ρ=some (.l F)∧mf ρ lo=some n∧t=.l zs∧(∀i r,zs[i]?=some r->F[n+i]?=some r)∧
   ph w (G.H tk) n v zs∧(n=0->∀b off k c,v=.slice (some ⟨b,off,none⟩) k c->off=0)
def cL(G:Gh)(w:World)(ρ:List T)(id:Nat):SV->Prop
 | .ob dp x=>∃t,x.fW ρ=some t∧fB G w id dp [] t
 | .fz pv x=>∃t,x.fW ρ=some t∧fm G.q w t (G.H id [])∧xK G w ρ (G.H id []) t pv
 | .tk x m=>id%4=2∧∃F u,x.fW ρ=some (.l F)∧m.fW ρ=some (.l u)∧u.length=F.length∧
   ∀i r,u[i]?=some r->r≠[]->F[i]?=some r∧∀j ys,r[j]?=some (.l ys)->fB G w id true [(i,j)] (.l ys)
 | .fl x=>id%4=2∧∃t,x.fW ρ=some t∧fB G w id true [] t
 | .fr x=>id%4=0∧∃ys,x.fW ρ=some (.l ys)∧fm G.q w (.l ys) (G.H id [])∧ph w (G.H id) 0 (G.H id []) ys∧
   ∀i j zs,d_ ys i j=some (.l zs)->fB G w id true [(i,j)] (.l zs)
 | .un=>True
 |_=>False
structure dF (I:Lb->Prop) (N:Nat->Prop) (G:Gh) (w:World) (G':Gh) (w':World):Prop where
 size:w.heap.size<=w'.heap.size
 free:∀b,b<w.heap.size->G.q b=none->G'.q b=none∧w'.heap[b]?=w.heap[b]?
 frs:∀b,b<w.heap.size->G.ω b=none->G'.ω b=none
 own:∀b l,G.ω b=some l->¬I l->G'.ω b=some l∧w'.heap[b]?=w.heap[b]?
 nm:∀i,¬N i->G'.β i=G.β i∧∀p,(p=[]∨i%4≠0∨∀r,¬I (.o i r))->G'.H i p=G.H i p
theorem KT{w w':World}{b:Nat}(h:w'.heap[b]?=w.heap[b]?)(off:Nat):w'.cell? ⟨b,off,none⟩=w.cell? ⟨b,off,none⟩:=by
 simp only[World.cell?,h]
theorem fm.bm{ω wL:Nat->Option Lb}{w w':World}(hs:w.heap.size<=w'.heap.size)
  (hf:∀b,b<w.heap.size->ω b=none->wL b=none∧w'.heap[b]?=w.heap[b]?){t:T}{c:Value}(h:fm ω w t c):fm wL w' t c:=by
 induction h with
 |c h=>exact .c h
 |nil=>exact .nil
 |l hw hc hb bf h1 h2 ih=>
  obtain⟨jU,hh⟩:=hf _ bf hb
  exact .l hw hc jU (Nat.lt_of_lt_of_le bf hs) (λi j t ht=>by rw[KT hh];exact h1 i j t ht) ih
theorem fB.bm{I:Lb->Prop}{N:Nat->Prop}{G G':Gh}{w w':World}(k:dF I N G w G' w'){id:Nat}(hi:∀p,¬I (.o id p))(hn:¬N id){dp:Bool}{p:List (Nat×Nat)}{t:T}
  (h:fB G w id dp p t):fB G' w' id dp p t:=by
 have hH:G'.H id=G.H id:=funext λp=>(k.nm id hn).2 p (.inr (.inr hi))
 induction h with
 |nil h=>exact .nil (by rw[hH];exact h)
 |l h1 h2 h3 h4 h5 h6 h7 h8 h9 n_ _ ih=>
  obtain⟨ho,hh⟩:=k.own _ _ h3 (hi _)
  exact .l (by rw[hH];exact h1) h2 ho (hh.trans h4) h5 h6 h7 h8 (λi j ys hy hd=>(h9 i j ys hy hd).bm k.size k.free)
   (λi j ys hy hd=>by rw[hH];exact n_ i j ys hy hd) ih
def dV:List Ce->List Nat
 | []=>[]
 | .o id _::cs=>id::dV cs
 |_::cs=>dV cs
def sK:List (Bool×List Ce)->List Nat
 | []=>[]
 |v::vs=>dV v.2++sK vs
def dA:SV->List Nat
 | .v _ cs=>dV cs
 | .pt b _=>[b]
 | .ep id _ _ _ _=>[id]
 | .cl _ bs=>bs
 | .tp vs=>sK vs
 | .fz (.w tk _ _) _=>[tk]
 |_=>[]
theorem gv.bm{I:Lb->Prop}{N:Nat->Prop}{G G':Gh}{w w':World}(k:dF I N G w G' w'){ρ:List T}{e:Ce}{c:Value}(hn:∀i∈dV [e],¬N i)
  (h:gv G w ρ e c):gv G' w' ρ e c:=by
 cases e with
 |p x=>obtain⟨t,h1,h2⟩:=h;exact⟨t,h1,h2.bm k.size k.free⟩
 |o id q=>obtain⟨p,h1,h2⟩:=h;exact⟨p,h1,by rw[(k.nm id (hn id (by simp[dV]))).2 p ((FD h1).imp_right λh=>.inl (by omega))];exact h2⟩
 |n=>exact h
 |d=>exact h
theorem yW(e:Ce)(cs:List Ce):dV (e::cs)=dV [e]++dV cs:=by
 cases e<;>simp[dV]
theorem bk.bm{I:Lb->Prop}{N:Nat->Prop}{G G':Gh}{w w':World}(k:dF I N G w G' w'){ρ:List T}:∀{cs:List Ce} {vs:List Value},(∀i∈dV cs,¬N i)->
  bk G w ρ cs vs->bk G' w' ρ cs vs
 | [],[],_,_=>trivial
 | [],_::_,_,h=>h.elim
 |_::_,[],_,h=>h.elim
 |e::cs,v::vs,hn,h=>by
  rw[yW]at hn
  exact⟨h.1.bm k (λi hi=>hn i (List.mem_append_left _ hi)),bk.bm k (λi hi=>hn i (List.mem_append_right _ hi)) h.2⟩
theorem fC.bm{I:Lb->Prop}{N:Nat->Prop}{G G':Gh}{w w':World}(k:dF I N G w G' w'){ρ:List T}{ag:Bool}{cs:List Ce}{c:Value}(hn:∀i∈dV cs,¬N i)
  (h:fC G w ρ ag cs c):fC G' w' ρ ag cs c:=by
 cases ag with
 |true=>obtain⟨vs,h1,h2⟩:=h;exact⟨vs,h1,h2.bm k hn⟩
 |false=>obtain⟨e,rfl,h2,h3⟩:=h;exact⟨e,rfl,h2.bm k hn,h3⟩
theorem gK.bm{I:Lb->Prop}{N:Nat->Prop}{G G':Gh}{w w':World}(k:dF I N G w G' w'){ρ:List T}:∀{cs:List (Bool×List Ce)} {vs:List Value},(∀i∈sK cs,¬N i)->
  gK G w ρ cs vs->gK G' w' ρ cs vs
 | [],[],_,_=>trivial
 | [],_::_,_,h=>h.elim
 |_::_,[],_,h=>h.elim
 |e::cs,v::vs,hn,h=>⟨h.1.bm k (λi hi=>hn i (by simp[sK,hi])),gK.bm k (λi hi=>hn i (by simp[sK,hi])) h.2⟩
theorem cK.bm{I:Lb->Prop}{N:Nat->Prop}{G G':Gh}{w w':World}(k:dF I N G w G' w'){ρ:List T}{v:SV}{c:Value}(hn:∀i∈dA v,¬N i)
  (h:cK G w ρ v c):cK G' w' ρ v c:=by
 cases v with
 |un=>trivial
 |v ag cs=>exact fC.bm k hn h
 |pt b off=>exact(by rw[cK,(k.nm b (hn b (by simp[dA]))).1];exact h)
 |ep id q ix wd off=>
  obtain⟨p,b,n,cap,i,h1,h2,h3⟩:=h
  exact⟨p,b,n,cap,i,h1,by rw[(k.nm id (hn id (by simp[dA]))).2 p ((FD h1).imp_right λh=>.inl (by omega))];exact h2,h3⟩
 |fp s ix wd off=>
  obtain⟨xs,i,r,b,base,h1,h2,h3,h4,h5⟩:=h
  refine⟨xs,i,r,b,base,h1,h2,h3,h4,λhr=>?_⟩
  obtain⟨h6,h7,h8⟩:=h5 hr
  obtain⟨h9,n_⟩:=k.free _ h7 h6
  refine⟨h9,Nat.lt_of_lt_of_le h7 k.size,λj t ht=>?_⟩
  obtain⟨u,hu,hd⟩:=h8 j t ht
  exact⟨u,by rw[KT n_];exact hu,hd.bm k.size k.free⟩
 |tp vs=>obtain⟨us,h1,h2⟩:=h;exact⟨us,h1,h2.bm k hn⟩
 |cl f bs=>
  simp only[cK]at h⊢
  rw[h]
  congr 2
  exact List.map_congr_left λb hb=>by rw[(k.nm b (hn b (by simpa[dA]using hb))).1]
 |ob dp x=>exact h
 |fz pv x=>exact h
 |tk x m=>exact h
 |fl x=>exact h
 |fr x=>exact h
theorem gk.bm{I:Lb->Prop}{N:Nat->Prop}{G G':Gh}{w w':World}(k:dF I N G w G' w'){ρ:List T}{b:Nat}{v:SV}(hi:¬I (.x b))(hb:¬N b)(hn:∀i∈dA v,¬N i)
  (h:gk G w ρ b v):gk G' w' ρ b v:=by
 cases v with
 |v ag cs=>
  obtain⟨h1,b9,elem,h2,h3⟩:=h
  obtain⟨h4,h5⟩:=k.own _ _ h1 hi
  have FE:=(k.nm b hb).1
  exact⟨by rw[FE];exact h4,b9,elem,by rw[FE];exact h5.trans h2,h3.bm k hn⟩
 |un=>trivial
 |_=>exact h
theorem ph.bm{ω:Nat->Option Lb}{w w':World}{H H':List (Nat×Nat)->Value}{n:Nat}{v:Value}{zs:List (List T)}(h:ph w H n v zs)(hd:fm ω w (.l zs) v)
  (hf:∀b,b<w.heap.size->ω b=none->w'.heap[b]?=w.heap[b]?)(hH:∀p,p≠[]->H' p=H p):ph w' H' n v zs:=by
 intro b off k c hv
 obtain⟨wd,h1,h2⟩:=h b off k c hv
 refine⟨wd,h1,λi j ys bI=>?_⟩
 rw[hH _ (by simp),<-h2 i j ys bI]
 subst hv
 generalize hv:Value.slice (some (⟨b,off,none⟩:Addr)) k c=v at hd
 cases hd with
 |nil=>simp[d_]at bI
 |l g1 g2 g3 g4 g5 g6=>cases hv;exact KT (hf _ g4 g3) _
theorem xK.bm{I:Lb->Prop}{N:Nat->Prop}{G G':Gh}{w w':World}(k:dF I N G w G' w'){ρ:List T}{pv:Pv}{v:Value}{t:T}(hd:fm G.q w t v)(hn:∀x i,i∈dA (.fz pv x)->¬N i)
  (h:xK G w ρ v t pv):xK G' w' ρ v t pv:=by
 cases pv with
 |z=>trivial
 |w tk x lo=>
  obtain⟨h0,F,n,zs,h1,h2,rfl,h3,h4,h5⟩:=h
  refine⟨h0,F,n,zs,h1,h2,rfl,h3,h4.bm hd (λb hb h=>(k.free b hb h).2) λp _=>?_,h5⟩
  exact(k.nm tk (hn .e tk (by simp[dA]))).2 p (.inr (.inl (by omega)))
theorem cL.bm{I:Lb->Prop}{N:Nat->Prop}{G G':Gh}{w w':World}(k:dF I N G w G' w'){ρ:List T}{id:Nat}{v:SV}(hi:∀p,¬I (.o id p))(hb:¬N id)(hn:∀i∈dA v,¬N i)
  (h:cL G w ρ id v):cL G' w' ρ id v:=by
 cases v with
 |ob dp x=>obtain⟨t,h1,h2⟩:=h;exact⟨t,h1,h2.bm k hi hb⟩
 |fz pv x=>
  obtain⟨t,h1,h2,h3⟩:=h
  have e:=(k.nm id hb).2 [] (.inl rfl)
  exact⟨t,h1,by rw[e];exact h2.bm k.size k.free,by rw[e];exact h3.bm k h2 (λ_ i hi=>hn i (by cases pv<;>exact hi))⟩
 |tk x m=>
  obtain⟨h0,F,u,h1,h2,h3,h4⟩:=h
  exact⟨h0,F,u,h1,h2,h3,λi r hr dH=>⟨(h4 i r hr dH).1,λj ys hy=>((h4 i r hr dH).2 j ys hy).bm k hi hb⟩⟩
 |fl x=>obtain⟨h0,t,h1,h2⟩:=h;exact⟨h0,t,h1,h2.bm k hi hb⟩
 |fr x=>
  obtain⟨h0,ys,h1,h2,h3,h4⟩:=h
  have e:=λp=>(k.nm id hb).2 p (.inr (.inr hi))
  refine⟨h0,ys,h1,by rw[e];exact h2.bm k.size k.free,by rw[e];exact h3.bm h2 (λb hb h=>(k.free b hb h).2) λp _=>e p,λi j zs hz=>(h4 i j zs hz).bm k hi hb⟩
 |un=>trivial
 |_=>exact h
theorem dF.refl(G:Gh)(w:World):dF (λ_=>False) (λ_=>False) G w G w:=
 ⟨Nat.le_refl _,λ_ _ h=>⟨h,rfl⟩,λ_ _ h=>h,λ_ _ h _=>⟨h,rfl⟩,λ_ _=>⟨rfl,λ_ _=>rfl⟩⟩
theorem dF.mono{I I':Lb->Prop}{N N':Nat->Prop}{G G':Gh}{w w':World}(k:dF I N G w G' w')(hI:∀l,I l->I' l)(hN:∀i,N i->N' i):dF I' N' G w G' w':=
 ⟨k.size,k.free,k.frs,λb l hb hl=>k.own b l hb λh=>hl (hI l h),λi hi=>⟨(k.nm i λh=>hi (hN i h)).1,λp hp=>(k.nm i λh=>hi (hN i h)).2 p (hp.imp_right λh=>h.imp_right λh r hr=>h r (hI _ hr))⟩⟩
theorem dF.trans{I:Lb->Prop}{N:Nat->Prop}{G G' G'':Gh}{w w' w'':World}(k:dF I N G w G' w')(k':dF I N G' w' G'' w''):dF I N G w G'' w'':=by
 refine⟨Nat.le_trans k.size k'.size,λb hb h0=>?_,λb hb h0=>k'.frs b (Nat.lt_of_lt_of_le hb k.size) (k.frs b hb h0),λb l hb hl=>?_,λi hi=>?_⟩
 ·obtain⟨h1,h2⟩:=k.free b hb h0
  obtain⟨h3,h4⟩:=k'.free b (Nat.lt_of_lt_of_le hb k.size) h1
  exact⟨h3,h4.trans h2⟩
 ·obtain⟨h1,h2⟩:=k.own b l hb hl
  obtain⟨h3,h4⟩:=k'.own b l h1 hl
  exact⟨h3,h4.trans h2⟩
 ·exact⟨(k'.nm i hi).1.trans (k.nm i hi).1,λp hp=>((k'.nm i hi).2 p hp).trans ((k.nm i hi).2 p hp)⟩
theorem St.uD(s:St)(r:bE):s.get r=(s.look r).getD .un:=by
 induction s with
 |nil=>rfl
 |cons x s ih=>
  obtain⟨r',v⟩:=x
  cases h:r'.beq r<;>simp[St.get,St.look,h,ih]
theorem St.a_(s W:St)(r:bE):(s.fK W).get r=(W.look r).getD (s.get r):=by
 induction W with
 |nil=>rfl
 |cons x W ih=>
  obtain⟨r',v⟩:=x
  cases h:r'.beq r with
  |true=>
   have:=bE.beq_iff.1 h
   subst this
   simp[St.fK,St.ci,St.look,h]
  |false=>
   have dH:r'≠r:=λe=>by simp[bE.beq_iff.2 e]at h
   simp[St.fK,St.eG _ _ dH,St.look,h,ih]
theorem St.bz(s:St)(r:bE)(v:SV):(s.set r v).look r=some v:=by
 induction s with
 |nil=>simp[St.set,St.look,(bE.beq_iff).2 rfl]
 |cons x s ih=>
  obtain⟨r',v'⟩:=x
  cases h:r'.beq r with
  |true=>simp[St.set,St.look,h,(bE.beq_iff).2 rfl]
  |false=>simp[St.set,St.look,h,ih]
theorem St.cF(s:St){r r':bE}(v:SV)(h:r≠r'):(s.set r v).look r'=s.look r':=by
 have hb:r.beq r'=false:=by
  cases hh:r.beq r' with
  |false=>rfl
  |true=>exact absurd (bE.beq_iff.1 hh) h
 induction s with
 |nil=>simp[St.set,St.look,hb]
 |cons x s ih=>
  obtain⟨r2,v2⟩:=x
  cases h2:r2.beq r with
  |true=>
   have:=bE.beq_iff.1 h2
   subst this
   simp[St.set,St.look,h2,hb]
  |false=>
   cases h3:r2.beq r' with
   |true=>simp[St.set,St.look,h2,h3]
   |false=>simp[St.set,St.look,h2,h3,ih]
theorem St.Bf(s:St)(R:List bE){r:bE}(h:r∈R):(s.only R).get r=s.get r:=by
 induction R with
 |nil=>cases h
 |cons x R ih=>
  simp only[St.only,St.get]
  cases hb:x.beq r with
  |true=>have:=bE.beq_iff.1 hb;subst this;rfl
  |false=>
   refine ih ?_
   cases h with
   |head=>simp[bE.beq_iff.2 rfl]at hb
   |tail _ h=>exact h
theorem St.sL(s:St)(R:List bE){r:bE}(h:r∉R):(s.only R).get r=.un:=by
 induction R with
 |nil=>rfl
 |cons x R ih=>
  simp only[St.only,St.get]
  have hb:x.beq r=false:=by
   cases hb:x.beq r with
   |false=>rfl
   |true=>exact absurd (bE.beq_iff.1 hb▸List.mem_cons_self) h
  rw[hb]
  exact ih λhm=>h (List.mem_cons_of_mem _ hm)
structure e_ where
 w0:World
 oa:Nat->Option Lb
 bt:Nat->Option Nat
def SQ:List (Nat×List Value):=[]
def FF(ω:Nat->Option Lb)(w:World):Prop:=∀x∈SQ,x.1<w.heap.size∧ω x.1=none∧∃e z,w.heap[x.1]?=some (.cells x.2.toArray e z)
structure wO (B:e_) (G:Gh) (w:World):Prop where
 os:w.os=B.w0.os
 tape:w.tape=B.w0.tape
 output:w.output=B.w0.output
 size:B.w0.heap.size<=w.heap.size
 free:∀b,b<B.w0.heap.size->B.oa b=none->G.ω b=none∧w.heap[b]?=B.w0.heap[b]?
 Ev:∀b,B.oa b=some .f->G.ω b=some .f∧w.heap[b]?=B.w0.heap[b]?
 gl:FF B.oa B.w0
theorem wO.agV{B:e_}{G:Gh}{w:World}(h:wO B G w):FF G.ω w:=λx hx=>by
 obtain⟨h1,h2,e,z,h3⟩:=h.gl x hx
 obtain⟨h4,h5⟩:=h.free x.1 h1 h2
 exact⟨Nat.lt_of_lt_of_le h1 h.size,h4,e,z,h5.trans h3⟩
def pi(up:Nat->Nat->Value)(d:Nat)(a:Act)(e n:Nat):Value:=if e=d then a.tmps.getD n undef else up e n
structure Rel (M:Nat->Prop) (B:e_) (d:Nat) (up:Nat->Nat->Value) (s:St) (ρ:List T) (G:Gh) (a:Act) (w:World):Prop where
 tm:∀e n,e<=d->cK G w ρ (s.get (.t e n)) (pi up d a e n)
 bx:∀b,gk G w ρ b (s.get (.x b))
 ob:∀i,cL G w ρ i (s.get (.o i))
 gm:∀r,∀i∈dA (s.get r),M i
 key:∀i,(s.get (.x i)≠.un∨s.get (.o i)≠.un)->M i
 iG:∀b l,G.ω b=some l->M l.id∧b<w.heap.size
 dn:a.defers=[]
 base:wO B G w
 bt:∀i b,B.bt i=some b->M i∧G.β i=b
theorem KU{up:Nat->Nat->Value}{d:Nat}{a:Act}{dst:Option Nat}{v:Value}{e n:Nat}(h:¬(e=d∧dst=some n)):
  pi up d (a.put dst v) e n=pi up d a e n:=by
 unfold pi
 split
 ·rename_i he
  cases dst with
  |none=>rfl
  |some m=>
   have dH:m≠n:=λhm=>h ⟨he,by rw[hm]⟩
   simp[Act.put,Array.getD_eq_getD_getElem?,Array.getElem?_setIfInBounds_ne dH]
 ·rfl
theorem SR{up:Nat->Nat->Value}{d:Nat}{a:Act}{v:Value}{n:Nat}(h:n<a.tmps.size):pi up d (a.put (some n) v) d n=v:=by
 simp[pi,Act.put,Array.getD_eq_getD_getElem?,h]
theorem Rel.mono{M M':Nat->Prop}{B:e_}{d:Nat}{up:Nat->Nat->Value}{s:St}{ρ:List T}{G:Gh}{a:Act}{w:World}(h:Rel M B d up s ρ G a w)
  (hM:∀i,M i->M' i):Rel M' B d up s ρ G a w:=
 ⟨h.tm,h.bx,h.ob,λr i hi=>hM i (h.gm r i hi),λi hi=>hM i (h.key i hi),λb l hl=>⟨hM _ (h.iG b l hl).1,(h.iG b l hl).2⟩,h.dn,h.base,λi b hb=>⟨hM i (h.bt i b hb).1,(h.bt i b hb).2⟩⟩
def pk(W:St):Lb->Prop
 | .f=>False
 | .x b=>W.look (.x b)≠none
 | .o i _=>W.look (.o i)≠none
theorem Rel.glue{M M':Nat->Prop}{B:e_}{d:Nat}{up:Nat->Nat->Value}{s s':St}{ρ:List T}{G:Gh}{a:Act}{w:World}(h:Rel M B d up s ρ G a w)
  {N:Nat->Prop}{G':Gh}{w':World}{W:St}(k:dF (pk W) N G w G' w'){dst:Option Nat}{v:Value}
  (hN:∀i,N i->¬M i)(hM:∀i,M i->M' i)
  (hd:∀n,dst=some n->W.look (.t d n)≠none)
  (hr:Rel M' B d up (s'.fK W) ρ G' (a.put dst v) w'):Rel M' B d up (s.fK W) ρ G' (a.put dst v) w':=by
 have hw:∀r u,W.look r=some u->(s'.fK W).get r=u:=λr u hu=>by rw[St.a_,hu];rfl
 refine⟨?_,?_,?_,?_,?_,hr.iG,hr.dn,hr.base,hr.bt⟩
 ·intro e n he
  rw[St.a_]
  cases hl:W.look (.t e n)with
  |some u=>have:=hr.tm e n he;rw[hw _ _ hl]at this;exact this
  |none=>
   rw[KU λ⟨h1,h2⟩=>hd n h2 (h1▸hl)]
   exact(h.tm e n he).bm k λi hi hn=>hN i hn (h.gm _ i hi)
 ·intro b
  rw[St.a_]
  cases hl:W.look (.x b)with
  |some u=>have:=hr.bx b;rw[hw _ _ hl]at this;exact this
  |none=>
   by_cases hu:s.get (.x b)=.un
   ·simp only[Option.getD_none,hu];trivial
   ·exact(h.bx b).bm k (λhk=>hk hl) (λhn=>hN b hn (h.key b (.inl hu))) λi hi hn=>hN i hn (h.gm _ i hi)
 ·intro i
  rw[St.a_]
  cases hl:W.look (.o i)with
  |some u=>have:=hr.ob i;rw[hw _ _ hl]at this;exact this
  |none=>
   by_cases hu:s.get (.o i)=.un
   ·simp only[Option.getD_none,hu];trivial
   ·exact(h.ob i).bm k (λp hk=>hk hl) (λhn=>hN i hn (h.key i (.inr hu))) λj hj hn=>hN j hn (h.gm _ j hj)
 ·intro r i hi
  rw[St.a_]at hi
  cases hl:W.look r with
  |some u=>rw[hl]at hi;refine hr.gm r i ?_;rw[hw _ _ hl];exact hi
  |none=>rw[hl]at hi;exact hM i (h.gm r i hi)
 ·intro i hi
  rw[St.a_,St.a_]at hi
  rcases hi with hi|hi
  ·cases hl:W.look (.x i)with
   |some u=>rw[hl]at hi;exact hr.key i (.inl (by rw[hw _ _ hl];exact hi))
   |none=>rw[hl]at hi;exact hM i (h.key i (.inl hi))
  ·cases hl:W.look (.o i)with
   |some u=>rw[hl]at hi;exact hr.key i (.inr (by rw[hw _ _ hl];exact hi))
   |none=>rw[hl]at hi;exact hM i (h.key i (.inr hi))
theorem Rel.FG{M:Nat->Prop}{B:e_}{d:Nat}{up:Nat->Nat->Value}{s:St}{ρ:List T}{G:Gh}{a:Act}{w:World}(h:Rel M B d up s ρ G a w)
  {n:Nat}{x:SV}{v:Value}(hn:n<a.tmps.size)(hr:cK G w ρ x v)(hm:∀i∈dA x,M i):
  Rel M B d up (s.set (.t d n) x) ρ G (a.put (some n) v) w:=by
 have hg:∀r,r≠.t d n->(s.set (.t d n) x).get r=s.get r:=λr hr=>St.eG _ _ (Ne.symm hr)
 refine⟨λe m he=>?_,λb=>?_,λi=>?_,λr i hi=>?_,λi hi=>?_,h.iG,h.dn,h.base,h.bt⟩
 ·by_cases iM:(bE.t e m)=.t d n
  ·cases iM;rw[St.ci,SR hn];exact hr
  ·rw[hg _ iM,KU λ⟨h1,h2⟩=>iM (by cases h1;cases h2;rfl)];exact h.tm e m he
 ·rw[hg _ (by simp)];exact h.bx b
 ·rw[hg _ (by simp)];exact h.ob i
 ·by_cases iM:r=.t d n
  ·subst iM;rw[St.ci]at hi;exact hm i hi
  ·rw[hg _ iM]at hi;exact h.gm r i hi
 ·rw[hg _ (by simp),hg _ (by simp)]at hi;exact h.key i hi
def bJ(S:Nat->af)(ρ:List T):Nat->List Fa->Prop
 |_,[]=>True
 |e,.pr p xs::is=>∃n t,e=n+1∧p.ev (xs.map (Lf.ev ρ))=some t∧ρ[n]?=some t∧bJ S ρ n is
 |e,.cl g xs m::is=>∃n ts,e=n+m∧S g (xs.map (Lf.ev ρ))=some ts∧(∀i,i<m->ρ[n+i]?=some (ts.getD i T.cE))∧bJ S ρ n is
def Wk.bJ(S:Nat->af)(ρ:List T)(k:Wk):Prop:=Go.Proofs.YtjimmglpkndemaaGreatC.bJ S ρ k.ct.a k.is
structure Wk.fq (k k':Wk):Prop where
 r:k'.r=k.r
 w:k'.w=k.w
 i:k'.ct.i=k.ct.i
theorem Wk.fq.refl(k:Wk):k.fq k:=⟨rfl,rfl,rfl⟩
theorem Wk.fq.trans{a b c:Wk}(h:a.fq b)(h':b.fq c):a.fq c:=⟨h'.r.trans h.r,h'.w.trans h.w,h'.i.trans h.i⟩
theorem Wk.fq.get{k k':Wk}(h:k.fq k')(r:bE):k'.get r=k.get r:=by simp[Wk.get,h.r,h.w]
section
variable {S:Nat->af} {ρ:List T}
theorem Wk.bR(k:Wk)(p:Prim)(xs:List Lf):k.fq (k.em p xs).1:=⟨rfl,rfl,rfl⟩
theorem Wk.bX{k:Wk}{p:Prim}{xs:List Lf}(h:(k.em p xs).1.bJ S ρ):
  k.bJ S ρ∧∃t,p.ev (xs.map (Lf.ev ρ))=some t∧(k.em p xs).2.fW ρ=some t:=by
 obtain⟨n,t,h1,h2,h3,h4⟩:=h
 have:n=k.ct.a:=by simp[Wk.em]at h1;omega
 subst this
 exact⟨h4,t,h2,h3⟩
def iU:List (Nat×Nat)->T->Option T
 | [],t=>some t
 |(i,j)::p,.l xs=>(d_ xs i j).bind (iU p)
 |_,_=>none
theorem yX{x:Lf}{i:Nat}(h:mf ρ x=some i):∃k,(x.ev ρ)=.c (.int k i):=by
 unfold mf at h
 split at h
 ·rename_i k n hx
  split at h
  ·rename_i h0
   cases h
   exact⟨k,by rw[Lf.bW hx];congr 2;exact(Int.toNat_of_nonneg h0).symm⟩
  ·cases h
 ·cases h
theorem Bg{xs:List (List T)}{k:IntKind}{i:Nat}:vK (.l xs) (.c (.int k (i:Int)))=xs[i]?:=by
 simp[vK,T.rows,T.int]
theorem FH{x ix:Lf}{w j i:Nat}{xs:List (List T)}{t:T}(hx:x.fW ρ=some (.l xs))(hi:mf ρ ix=some i)
  (h:Prim.ev (.dE w j) [x.ev ρ,ix.ev ρ]=some t):∃ys,t=.l ys∧d_ xs i j=some (.l ys)∧∃r,xs[i]?=some r∧r.length=w:=by
 obtain⟨k,hk⟩:=yX hi
 rw[Lf.bW hx,hk]at h
 simp only[Prim.ev,Bg]at h
 cases hr:xs[i]? with
 |none=>simp[hr]at h
 |some r=>
  simp only[hr,Option.bind_some]at h
  split at h
  ·rename_i hl
   cases hj:r[j]? with
   |none=>simp[hj]at h
   |some u=>
    cases u with
    |c v=>simp[hj,T.rows]at h
    |l ys=>
     simp[hj,T.rows]at h
     exact⟨ys,h.symm,by simp[d_,hr,hj],r,rfl,hl⟩
  ·cases h
theorem Wk.fL:∀(q:np) (k:Wk) (x:Lf),k.fq (k.down x q).1
 | [],k,x=>.refl k
 |(ix,w,j)::q,k,x=>by
  simp only[Wk.down]
  exact(Wk.bR k _ _).trans (Wk.fL q _ _)
theorem Wk.lF:∀(q:np) (k:Wk) (x:Lf),(k.down x q).1.bJ S ρ->k.bJ S ρ
 | [],_,_,h=>h
 |(ix,w,j)::q,k,x,h=>(Wk.bX (Wk.lF q _ _ h)).1
theorem Wk.jg:∀(q:np) (k:Wk) (x:Lf) {t:T} {p:List (Nat×Nat)},(k.down x q).1.bJ S ρ->x.fW ρ=some t->gU ρ q=some p->
  (q=[]∨∃xs,t=.l xs)->∃u,iU p t=some u∧(k.down x q).2.fW ρ=some u∧(q=[]∨∃ys,u=.l ys)
 | [],k,x,t,p,h,hx,hp,_=>by
  simp only[gU]at hp
  cases hp
  exact⟨t,rfl,hx,.inl rfl⟩
 |(ix,w,j)::q,k,x,t,p,h,hx,hp,ht=>by
  simp only[Wk.down]at h⊢
  obtain⟨xs,rfl⟩:=ht.resolve_left (by simp)
  simp only[gU]at hp
  cases hi:mf ρ ix with
  |none=>simp[hi]at hp
  |some i=>
   cases hq:gU ρ q with
   |none=>simp[hi,hq]at hp
   |some p'=>
    simp[hi,hq]at hp
    subst hp
    obtain⟨_,u,hu,huv⟩:=Wk.bX (Wk.lF q _ _ h)
    obtain⟨ys,rfl,bI,_⟩:=FH hx hi hu
    obtain⟨v,hv,tT,hl⟩:=Wk.jg q _ _ h huv hq (.inr ⟨ys,rfl⟩)
    refine⟨v,by simp[iU,bI,hv],tT,.inr ?_⟩
    rcases hl with rfl|hl
    ·simp only[gU]at hq
     cases hq
     simp[iU]at hv
     exact⟨ys,hv.symm⟩
    ·exact hl
def er(ω:Nat->Option Lb):Nat->Option Lb:=λb=>match ω b with
 |some (.x i)=>some (.x i)
 |some .f=>some .f
 |_=>none
theorem agX{ω:Nat->Option Lb}{b:Nat}(h:ω b=none):er ω b=none:=by simp[er,h]
theorem SS{G:Gh}{b:Nat}(h:G.q b=none):er G.ω b=none:=by
 rcases SP h with h0|⟨l,h1,h2⟩
 ·exact agX h0
 ·cases l with
  |o i p=>simp[er,h1]
  |_=>simp[qt]at h2
theorem fm.er{G:Gh}{w:World}{t:T}{c:Value}(h:fm G.q w t c):fm (er G.ω) w t c:=
 by
 induction h with
 |c h=>exact .c h
 |nil=>exact .nil
 |l hw hc hb bf h1 h2 ih=>exact .l hw hc (SS hb) bf h1 ih
theorem yY{w:World}{b:Nat}{b9:Array Value}{elem:TypeId}{fz:Nat×Nat}(h:w.heap[b]?=some (.cells b9 elem fz))(off:Nat):
  w.cell? ⟨b,off,none⟩=b9[off]?:=by
 simp[World.cell?,h]
theorem Rp{w:World}{b:Nat}{o:Obj}(h:w.heap[b]?=some o):b<w.heap.size:=(Array.getElem?_eq_some_iff.1 h).1
theorem xL{xs:List (List T)}{i j:Nat}{t:T}(h:d_ xs i j=some t):∃r,xs[i]?=some r∧r∈xs∧r[j]?=some t∧i<xs.length∧j<r.length:=by
 unfold d_ at h
 cases hr:xs[i]? with
 |none=>simp[hr]at h
 |some r=>
  simp[hr]at h
  exact⟨r,rfl,List.mem_of_getElem? hr,h,(List.getElem?_eq_some_iff.1 hr).1,(List.getElem?_eq_some_iff.1 h).1⟩
theorem fB.den{G:Gh}{w:World}{id:Nat}{dp:Bool}{p:List (Nat×Nat)}{t:T}(h:fB G w id dp p t):fm (er G.ω) w t (G.H id p):=by
 induction h with
 |nil h=>rw[h];exact .nil
 | @l dp p xs b wd cap b9 elem cv h1 h2 h3 h4 h5 h6 h7 h8 h9 n_ _ ih=>
  rw[h1]
  refine .l (cv:=cv) h6 h2.1 (by simp[er,h3]) (Rp h4) (λi j t ht=>?_) λi j t ht=>?_
  ·rw[yY h4,Nat.zero_add];exact h7 i j t ht
  ·cases t with
   |c v=>obtain⟨hv,hs⟩:=h8 i j v ht;rw[hv];exact .c hs
   |l ys=>
    cases hd:dp with
    |false=>exact(h9 i j ys ht hd).er
    |true=>rw[n_ i j ys ht hd];exact ih i j ys ht hd
theorem fB.SU{G:Gh}{w:World}{id:Nat}{dp:Bool}{p:List (Nat×Nat)}{t:T}(h:fB G w id dp p t)(hi:id%4=2∨(id%2=0∧p≠[]))(gR:dp=true):fm G.q w t (G.H id p):=by
 induction h with
 |nil h=>rw[h];exact .nil
 | @l dp p xs b wd cap b9 elem cv h1 h2 h3 h4 h5 h6 h7 h8 h9 n_ xM ih=>
  rw[h1]
  refine .l (cv:=cv) h6 h2.1 (SO h3 (hi.elim KS λh=>wN h.1 h.2)) (Rp h4) (λi j t ht=>?_) λi j t ht=>?_
  ·rw[yY h4,Nat.zero_add];exact h7 i j t ht
  ·cases t with
   |c v=>obtain⟨hv,hs⟩:=h8 i j v ht;rw[hv];exact .c hs
   |l ys=>rw[n_ i j ys ht gR];exact ih i j ys ht gR (hi.imp_right λh=>⟨h.1,by simp⟩) rfl
theorem fB.dE{G:Gh}{w:World}{id:Nat}:∀(q:List (Nat×Nat)) {p:List (Nat×Nat)} {t u:T},fB G w id true p t->iU q t=some u->(∃ys,u=.l ys)->
  fB G w id true (p++q) u
 | [],p,t,u,h,hd,_=>by simp only[iU]at hd;cases hd;simpa using h
 |(i,j)::q,p,t,u,h,hd,hu=>by
  cases h with
  |nil=>simp[iU,d_]at hd
  | @l _ _ xs b wd cap b9 elem cv h1 h2 h3 h4 h5 h6 h7 h8 h9 n_ xM=>
   simp only[iU]at hd
   cases ha:d_ xs i j with
   |none=>simp[ha]at hd
   |some v=>
    simp only[ha,Option.bind_some]at hd
    cases v with
    |c v=>
     cases q with
     |nil=>simp[iU]at hd;obtain⟨ys,rfl⟩:=hu;cases hd
     |cons a q=>simp[iU]at hd
    |l ys=>
     have:=fB.dE q (xM i j ys ha rfl) hd hu
     simpa using this
theorem Wk.eh{k k':Wk}{c:Ce}{x:Lf}(h:k.val c=some (k',x)):k.fq k':=by
 cases c with
 |p y=>simp[Wk.val]at h;obtain⟨rfl,_⟩:=h;exact .refl _
 |n=>simp[Wk.val]at h;obtain⟨rfl,_⟩:=h;exact .refl _
 |d=>simp[Wk.val]at h
 |o id q=>
  simp only[Wk.val]at h
  split at h
  ·simp only[bG]at h
   have e1:=congrArg Prod.fst h
   simp only at e1
   subst e1
   exact Wk.fL q k _
  ·split at h
   ·simp at h;obtain⟨rfl,_⟩:=h;exact .refl _
   ·cases h
  ·split at h
   ·simp at h;obtain⟨rfl,_⟩:=h;exact .refl _
   ·cases h
  ·split at h
   ·simp at h;obtain⟨rfl,_⟩:=h;exact .refl _
   ·cases h
  ·cases h
theorem Wk.mg{k k':Wk}{c:Ce}{x:Lf}(h:k.val c=some (k',x))(hd:k'.bJ S ρ):k.bJ S ρ:=by
 cases c with
 |p y=>simp[Wk.val]at h;obtain⟨rfl,_⟩:=h;exact hd
 |n=>simp[Wk.val]at h;obtain⟨rfl,_⟩:=h;exact hd
 |d=>simp[Wk.val]at h
 |o id q=>
  simp only[Wk.val]at h
  split at h
  ·simp only[bG]at h
   have e1:=congrArg Prod.fst h
   simp only at e1
   subst e1
   exact Wk.lF q _ _ hd
  ·split at h
   ·simp at h;obtain⟨rfl,_⟩:=h;exact hd
   ·cases h
  ·split at h
   ·simp at h;obtain⟨rfl,_⟩:=h;exact hd
   ·cases h
  ·split at h
   ·simp at h;obtain⟨rfl,_⟩:=h;exact hd
   ·cases h
  ·cases h
theorem Wk.lG{k k':Wk}{c:Ce}{x:Lf}{G:Gh}{w:World}{v:Value}(h:k.val c=some (k',x))(hd:k'.bJ S ρ)
  (hr:gv G w ρ c v)(ho:∀id,id∈dV [c]->cL G w ρ id (k.get (.o id))):∃t,x.fW ρ=some t∧fm (er G.ω) w t v:=by
 cases c with
 |p y=>simp[Wk.val]at h;obtain⟨_,rfl⟩:=h;obtain⟨t,h1,h2⟩:=hr;exact⟨t,h1,h2.er⟩
 |n=>simp[Wk.val]at h;obtain⟨_,rfl⟩:=h;cases hr;exact⟨_,rfl,.nil⟩
 |d=>simp[Wk.val]at h
 |o id q=>
  have eH:=ho id (by simp[dV])
  obtain⟨p,hp,rfl⟩:=hr
  simp only[Wk.val]at h
  split at h
  ·rename_i y hk
   simp only[hk,cL]at eH
   obtain⟨t,ht,bU⟩:=eH
   simp only[bG]at h
   have e1:=congrArg Prod.fst h
   have e2:=congrArg Prod.snd h
   simp only at e1 e2
   subst e1 e2
   have hl:∃ys,t=.l ys:=by cases bU<;>exact⟨_,rfl⟩
   obtain⟨u,hu,hxu,kX⟩:=Wk.jg q k y hd ht (uC hp) (.inr hl)
   refine⟨u,hxu,?_⟩
   have SW:∃ys,u=.l ys:=by
    rcases kX with rfl|h'
    ·simp only[mD]at hp;cases hp;simp[iU]at hu;subst hu;exact hl
    ·exact h'
   have:=(fB.dE p bU hu SW).den
   simpa using this
  ·rename_i y hk
   split at h
   ·simp at h
    obtain⟨_,rfl⟩:=h
    simp only[hk,cL]at eH
    obtain⟨t,ht,bU⟩:=eH
    simp only[mD]at hp;cases hp
    exact⟨t,ht,bU.den⟩
   ·cases h
  ·rename_i y hk
   split at h
   ·simp at h
    obtain⟨_,rfl⟩:=h
    simp only[hk,cL]at eH
    obtain⟨t,ht,bU,_⟩:=eH
    simp only[mD]at hp;cases hp
    exact⟨t,ht,bU.er⟩
   ·cases h
  ·rename_i y hk
   split at h
   ·simp at h
    obtain⟨_,rfl⟩:=h
    simp only[hk,cL]at eH
    obtain⟨_,t,ht,bU⟩:=eH
    simp only[mD]at hp;cases hp
    exact⟨t,ht,bU.den⟩
   ·cases h
  ·cases h
end
section
variable {M:Nat->Prop} {B:e_} {d:Nat} {up:Nat->Nat->Value} {s:St} {ρ:List T} {G:Gh} {a:Act} {w:World}
theorem Rel.forget(h:Rel M B d up s ρ G a w){s':St}(hs:∀r,s'.get r=s.get r∨s'.get r=.un):Rel M B d up s' ρ G a w:=by
 refine⟨λe n he=>?_,λb=>?_,λi=>?_,λr i hi=>?_,λi hi=>?_,h.iG,h.dn,h.base,h.bt⟩
 ·rcases hs (.t e n)with hr|hr
  ·rw[hr];exact h.tm e n he
  ·rw[hr];trivial
 ·rcases hs (.x b)with hr|hr
  ·rw[hr];exact h.bx b
  ·rw[hr];trivial
 ·rcases hs (.o i)with hr|hr
  ·rw[hr];exact h.ob i
  ·rw[hr];trivial
 ·rcases hs r with hr|hr
  ·rw[hr]at hi;exact h.gm r i hi
  ·rw[hr]at hi;simp[dA]at hi
 ·refine h.key i ?_
  rcases hi with hi|hi
  ·rcases hs (.x i)with hr|hr
   ·exact .inl (hr▸hi)
   ·exact absurd hr hi
  ·rcases hs (.o i)with hr|hr
   ·exact .inr (hr▸hi)
   ·exact absurd hr hi
theorem Rel.congr(h:Rel M B d up s ρ G a w){s':St}(hs:∀r,s'.get r=s.get r):Rel M B d up s' ρ G a w:=h.forget λr=>.inl (hs r)
def Gh.free(G:Gh)(id:Nat)(all:Bool):Gh:=
 {G with ω:=λb=>match G.ω b with
   |some (.o i p)=>if i=id∧(all=true∨p≠[])then none else some (.o i p)
   |l=>l}
theorem Gh.j7{G:Gh}{id b:Nat}{all:Bool}(h:G.ω b=none):(G.free id all).ω b=none:=by simp[Gh.free,h]
theorem Gh.uE{G:Gh}{id b i:Nat}{p:List (Nat×Nat)}{all:Bool}(h:G.ω b=some (.o i p))(hi:i=id)(ha:all=true∨p≠[]):(G.free id all).ω b=none:=by
 simp only[Gh.free,h]
 rw[if_pos ⟨hi,ha⟩]
theorem Gh.sM{G:Gh}{id b:Nat}{all:Bool}(h:G.q b=none):(G.free id all).q b=none:=by
 refine uB h Gh.j7 λl hl hq=>?_
 cases l with
 |o i p=>
  simp only[Gh.free,hl]
  split
  ·exact .inl rfl
  ·exact .inr ⟨_,rfl,hq⟩
 |_=>simp[qt]at hq
theorem Gh.fM(G:Gh)(id:Nat)(all:Bool)(w:World):dF (λl=>∃p,l=.o id p) (λ_=>False) G w (G.free id all) w:=by
 refine⟨Nat.le_refl _,λb _ hb=>⟨Gh.sM hb,rfl⟩,λb _ hb=>Gh.j7 hb,λb l hb hl=>⟨?_,rfl⟩,λ_ _=>⟨rfl,λ_ _=>rfl⟩⟩
 cases l with
 |f=>simp[Gh.free,hb]
 |x i=>simp[Gh.free,hb]
 |o i p=>
  have:i≠id:=λe=>hl ⟨p,by rw[e]⟩
  simp[Gh.free,hb,this]
theorem fB.Bh{id:Nat}{p:List (Nat×Nat)}{t:T}{dp:Bool}(h:fB G w id dp p t)(hp:p≠[])(gR:dp=true):fm (G.free id false).q w t (G.H id p):=by
 induction h with
 |nil h=>rw[h];exact .nil
 | @l dp p xs b wd cap b9 elem cv h1 h2 h3 h4 h5 h6 h7 h8 h9 n_ xM ih=>
  rw[h1]
  refine .l (cv:=cv) h6 h2.1 (Bd (Gh.uE h3 rfl (.inr hp))) (Rp h4) (λi j t ht=>?_) λi j t ht=>?_
  ·rw[yY h4,Nat.zero_add];exact h7 i j t ht
  ·cases t with
   |c v=>obtain⟨hv,hs⟩:=h8 i j v ht;rw[hv];exact .c hs
   |l ys=>rw[n_ i j ys ht gR];exact ih i j ys ht gR (by simp) rfl
theorem fB.xN{id:Nat}{p:List (Nat×Nat)}{t:T}{dp:Bool}(h:fB G w id dp p t):fm (G.free id true).q w t (G.H id p):=by
 induction h with
 |nil h=>rw[h];exact .nil
 | @l dp p xs b wd cap b9 elem cv h1 h2 h3 h4 h5 h6 h7 h8 h9 n_ xM ih=>
  rw[h1]
  refine .l (cv:=cv) h6 h2.1 (Bd (Gh.uE h3 rfl (.inl rfl))) (Rp h4) (λi j t ht=>?_) λi j t ht=>?_
  ·rw[yY h4,Nat.zero_add];exact h7 i j t ht
  ·cases t with
   |c v=>obtain⟨hv,hs⟩:=h8 i j v ht;rw[hv];exact .c hs
   |l ys=>
    cases hd:dp with
    |false=>exact(h9 i j ys ht hd).bm (Nat.le_refl _) λb _ hb=>⟨Gh.sM hb,rfl⟩
    |true=>rw[n_ i j ys ht hd];exact ih i j ys ht hd
theorem Rel.mw(h:Rel M B d up s ρ G a w){id:Nat}{dp:Bool}{x:Lf}(hx:s.get (.o id)=.ob dp x):
  Rel M B d up (s.set (.o id) (.fz .z x)) ρ (G.free id true) a w:=by
 have k:=G.fM id true w
 have hg:∀r,r≠.o id->(s.set (.o id) (.fz .z x)).get r=s.get r:=λr hr=>St.eG _ _ (Ne.symm hr)
 refine⟨λe n he=>?_,λb=>?_,λi=>?_,λr i hi=>?_,λi hi=>?_,λb l hb=>?_,h.dn,?_,h.bt⟩
 ·rw[hg _ (by simp)];exact(h.tm e n he).bm k λ_ _ hn=>hn
 ·rw[hg _ (by simp)]
  exact(h.bx b).bm k (λ⟨p,hp⟩=>by cases hp) (λhn=>hn) λ_ _ hn=>hn
 ·by_cases hi:i=id
  ·subst hi
   rw[St.ci]
   obtain⟨t,ht,ho⟩:=(by simpa only[hx]using h.ob i:cL G w ρ i (.ob dp x))
   exact⟨t,ht,ho.xN,trivial⟩
  ·rw[hg _ (by simpa using hi)];exact(h.ob i).bm k (λp ⟨q,hq⟩=>hi (by cases hq;rfl)) (λhn=>hn) λ_ _ hn=>hn
 ·by_cases hr:r=.o id
  ·subst hr;rw[St.ci]at hi;simp[dA]at hi
  ·rw[hg r hr]at hi;exact h.gm r i hi
 ·refine h.key i ?_
  rcases hi with hi|hi
  ·exact .inl (by rwa[hg _ (by simp)]at hi)
  ·by_cases sN:i=id
   ·subst sN;exact .inr (by rw[hx];simp)
   ·exact .inr (by rwa[hg _ (by simpa using sN)]at hi)
 ·refine h.iG b l ?_
  simp only[Gh.free]at hb
  split at hb
  ·split at hb
   ·cases hb
   ·rename_i hw _;rw[hw];exact hb
  ·exact hb
 ·refine⟨h.base.os,h.base.tape,h.base.output,h.base.size,λb hb h0=>?_,λb hb=>?_,h.base.gl⟩
  ·obtain⟨h1,h2⟩:=h.base.free b hb h0
   exact⟨Gh.j7 h1,h2⟩
  ·obtain⟨h1,h2⟩:=h.base.Ev b hb
   exact⟨by simp[Gh.free,h1],h2⟩
theorem Rel.flat(h:Rel M B d up s ρ G a w){id:Nat}{dp:Bool}{x:Lf}(hx:s.get (.o id)=.ob dp x):
  Rel M B d up (s.set (.o id) (.ob false x)) ρ (G.free id false) a w:=by
 have k:=G.fM id false w
 have hg:∀r,r≠.o id->(s.set (.o id) (.ob false x)).get r=s.get r:=λr hr=>St.eG _ _ (Ne.symm hr)
 refine⟨λe n he=>?_,λb=>?_,λi=>?_,λr i hi=>?_,λi hi=>?_,λb l hb=>?_,h.dn,?_,h.bt⟩
 ·rw[hg _ (by simp)];exact(h.tm e n he).bm k λ_ _ hn=>hn
 ·rw[hg _ (by simp)]
  exact(h.bx b).bm k (λ⟨p,hp⟩=>by cases hp) (λhn=>hn) λ_ _ hn=>hn
 ·by_cases hi:i=id
  ·subst hi
   rw[St.ci]
   obtain⟨t,ht,ho⟩:=(by simpa only[hx]using h.ob i:cL G w ρ i (.ob dp x))
   refine⟨t,ht,?_⟩
   cases ho with
   |nil h=>exact .nil h
   | @l _ _ xs b wd cap b9 elem cv h1 h2 h3 h4 h5 h6 h7 h8 h9 n_ xM=>
    refine .l (cv:=cv) h1 h2 (by simp[Gh.free,h3]) h4 h5 h6 h7 h8 (λp j ys hy _=>?_) (λ_ _ _ _ hf=>by cases hf) (λ_ _ _ _ hf=>by cases hf)
    cases hd:dp with
    |false=>exact(h9 p j ys hy hd).bm (Nat.le_refl _) λb _ hb=>⟨Gh.sM hb,rfl⟩
    |true=>rw[n_ p j ys hy hd];exact(xM p j ys hy hd).Bh (by simp) rfl
  ·rw[hg _ (by simpa using hi)];exact(h.ob i).bm k (λp ⟨q,hq⟩=>hi (by cases hq;rfl)) (λhn=>hn) λ_ _ hn=>hn
 ·by_cases hr:r=.o id
  ·subst hr;rw[St.ci]at hi;simp[dA]at hi
  ·rw[hg r hr]at hi;exact h.gm r i hi
 ·refine h.key i ?_
  rcases hi with hi|hi
  ·exact .inl (by rwa[hg _ (by simp)]at hi)
  ·by_cases sN:i=id
   ·subst sN;exact .inr (by rw[hx];simp)
   ·exact .inr (by rwa[hg _ (by simpa using sN)]at hi)
 ·refine h.iG b l ?_
  simp only[Gh.free]at hb
  split at hb
  ·split at hb
   ·cases hb
   ·rename_i hw _;rw[hw];exact hb
  ·exact hb
 ·refine⟨h.base.os,h.base.tape,h.base.output,h.base.size,λb hb h0=>?_,λb hb=>?_,h.base.gl⟩
  ·obtain⟨h1,h2⟩:=h.base.free b hb h0
   exact⟨Gh.j7 h1,h2⟩
  ·obtain⟨h1,h2⟩:=h.base.Ev b hb
   exact⟨by simp[Gh.free,h1],h2⟩
end
def wP:List Ce->List Value->Bool
 | [],[]=>true
 | .p (.k (.int k n))::cs,.int k' n'::vs=>decide (k=k')&&decide (n=n')&&wP cs vs
 | .p (.k (.bool b))::cs,.bool b'::vs=>decide (b=b')&&wP cs vs
 | .p (.k (.string x))::cs,.string x'::vs=>decide (x=x')&&wP cs vs
 | .n::cs,.slice none 0 0::vs=>wP cs vs
 |_,_=>false
def yZ(P:Program):List (Nat×Nat)->List Field->Bool
 | [],[]=>true
 |o::os,f::fs=>Nat.beq f.offset o.1&&(match P.info? f.type with|some i=>!Nat.beq i.size 0&&Nat.beq i.size o.2|none=>false)&&yZ P os fs
 |_,_=>false
def sO(P:Program):Nat->List Ce->List Field->Bool
 |_,[],[]=>true
 |i,z::zs,f::fs=>Nat.beq f.offset i&&decide (f.name≠"_")&&(match P.underlying f.type with|some (.int _)=>Nat.beq (my z) 1|some .bool=>Nat.beq (my z) 4|some .string=>Nat.beq (my z) 2|_=>false)&&sO P (i+1) zs fs
 |_,_,_=>false
def tyB(P:Program)(t:Nat)(ti:TI):Bool:=
 match P.info? t,P.underlying t with
 |some i,some u=>
  Nat.beq i.size ti.sz&&Nat.beq i.bytes ti.bytes&&(match i.zero with|some z=>wP ti.zero z.cells.toList|none=>false)&&Nat.beq ti.zero.length ti.sz&&
  (match u with
   | .struct fs=>ti.ag&&(Nat.beq ti.kd 0||(Nat.beq ti.kd 5&&Nat.beq fs.size ti.sz&& !P.stoodInHeld t&& !P.eqGuardType P.depth t&&sO P 0 ti.zero fs.toList))&&yZ P ti.fs fs.toList
   | .array ..=>false
   | .slice e=>!ti.ag&&Nat.beq ti.sz 1&&Nat.beq ti.kd 3&&Nat.beq e ti.el&&ti.fs.isEmpty
   | .int kk=>!ti.ag&&Nat.beq ti.sz 1&&Nat.beq ti.kd 1&&(match ti.zero with| [.p (.k (.int k' _))]=>decide (kk=k')|_=>false)&&ti.fs.isEmpty
   | .string=>!ti.ag&&Nat.beq ti.sz 1&&Nat.beq ti.kd 2&&ti.fs.isEmpty
   | .bool=>!ti.ag&&Nat.beq ti.sz 1&&Nat.beq ti.kd 4&&ti.fs.isEmpty
   |_=>!ti.ag&&Nat.beq ti.sz 1&&Nat.beq ti.kd 0&&ti.fs.isEmpty)
 |_,_=>false
def Bi:List Ce->List Value->Prop
 | [],[]=>True
 | .p (.k v)::cs,v'::vs=>v=v'∧kW v=true∧Bi cs vs
 | .n::cs,v::vs=>v=.slice none 0 0∧Bi cs vs
 |_,_=>False
theorem agZ:∀{cs:List Ce} {vs:List Value},wP cs vs=true->Bi cs vs:=by
 intro cs
 induction cs with
 |nil=>intro vs h;cases vs<;>simp_all[wP,Bi]
 |cons c cs ih=>
  intro vs h
  cases vs with
  |nil=>cases c<;>simp_all[wP]
  |cons v vs=>
   cases c with
   |p x=>
    cases x with
    |k u=>
     cases u<;>cases v<;>simp_all[wP,Bi,kW]
    |a n=>simp[wP]at h
    |e=>simp[wP]at h
   |o id q=>simp[wP]at h
   |n=>
    cases v with
    |slice a l c=>
     unfold wP at h
     split at h<;>simp_all[Bi]
    |_=>simp[wP]at h
   |d=>simp[wP]at h
structure uF (P:Program) (t:Nat) (ti:TI):Prop where
 info:∃i z,P.info? t=some i∧i.size=ti.sz∧i.bytes=ti.bytes∧i.zero=some z∧Bi ti.zero z.cells.toList
 FI:ti.zero.length=ti.sz
 one:ti.ag=false->ti.sz=1
 ag:∃u,P.underlying t=some u∧(ti.ag=true↔∃fs,u=.struct fs)∧(∀n e,u≠.array n e)
 sl:ti.kd=3->P.underlying t=some (.slice ti.el)
 it:ti.kd=1->∃k,P.underlying t=some (.int k)
 st:ti.kd=2->P.underlying t=some .string
 ik:ti.kd=1->∀k n,ti.zero=[.p (.k (.int k n))]->P.underlying t=some (.int k)
 bo:ti.kd=4->P.underlying t=some .bool
 ni:ti.kd≠1->∀k,P.underlying t≠some (.int k)
 fs:∀(f:Nat) (o:Nat×Nat),ti.fs[f]?=some o->∃(fs:Array Field) (Au:Field) (i:TypeInfo),P.underlying t=some (.struct fs)∧fs[f]?=some Au∧Au.offset=o.1∧P.info? Au.type=some i∧i.size≠0∧i.size=o.2
 fl:∀fs,P.underlying t=some (.struct fs)->fs.size=ti.fs.length
 eq:ti.kd=5->∃fs:Array Field,P.underlying t=some (.struct fs)∧fs.size=ti.sz∧P.stoodInHeld t=false∧P.eqGuardType P.depth t=false∧sO P 0 ti.zero fs.toList=true
theorem KV{P:Program}:∀{os:List (Nat×Nat)} {fs:List Field},yZ P os fs=true->fs.length=os.length∧∀(f:Nat) (o:Nat×Nat),os[f]?=some o->
  ∃(Au:Field) (i:TypeInfo),fs[f]?=some Au∧Au.offset=o.1∧P.info? Au.type=some i∧i.size≠0∧i.size=o.2
 | [],[],_=>⟨rfl,λf o h=>by simp at h⟩
 | [],_::_,h=>by simp[yZ]at h
 |o::os,[],h=>by simp[yZ]at h
 |o::os,fl::fs,h=>by
  simp only[yZ,bD]at h
  obtain⟨⟨h1,h2⟩,h3⟩:=h
  obtain⟨hl,hr⟩:=KV h3
  refine⟨by simp[hl],λf o' hf=>?_⟩
  cases f with
  |zero=>
   simp at hf
   subst hf
   cases hi:P.info? fl.type with
   |none=>simp[hi]at h2
   |some i=>
    simp only[hi,bD]at h2
    exact⟨fl,i,rfl,ef h1,hi,λe=>by simp[e]at h2,ef h2.2⟩
  |succ f=>exact hr f o' (by simpa using hf)
theorem ag1{P:Program}{t:Nat}{ti:TI}(h:tyB P t ti=true):uF P t ti:=by
 unfold tyB at h
 split at h
 ·rename_i i u hi hu
  simp only[bD]at h
  obtain⟨⟨⟨⟨h1,h2⟩,h3⟩,h4⟩,h5⟩:=h
  have z:∃z,i.zero=some z∧Bi ti.zero z.cells.toList:=by
   split at h3
   ·rename_i z hz;exact⟨z,hz,agZ h3⟩
   ·cases h3
  obtain⟨z,hz,y7⟩:=z
  refine⟨⟨i,z,hi,ef h1,ef h2,hz,y7⟩,ef h4,?_,⟨u,hu,?_,?_⟩,?_,?_,?_,?_,?_,?_,?_,?_,?_⟩
  ·intro ha;split at h5<;>simp_all
  ·split at h5<;>simp_all
  ·intro n e dH;subst dH;simp at h5
  ·intro hk;rw[hu];split at h5<;>simp_all
  ·intro hk;rw[hu];split at h5<;>simp_all
  ·intro hk;rw[hu];split at h5<;>simp_all
  ·intro hk k n hz
   rw[hu]
   rw[hz,hk]at h5
   split at h5
   ·simp only[bD,Bool.or_eq_true]at h5
    obtain⟨⟨_,h6⟩,_⟩:=h5
    rcases h6 with h6|⟨⟨⟨⟨h6,_⟩,_⟩,_⟩,_⟩<;>exact absurd h6 (by decide)
   ·cases h5
   ·simp only[bD]at h5
    exact absurd h5.1.1.2 (by decide)
   ·simp only[bD,decide_eq_true_eq]at h5
    rw[h5.1.2]
   all_goals
    simp only[bD]at h5
    exact absurd h5.1.2 (by decide)
  ·intro hk;rw[hu];split at h5<;>simp_all
  ·intro hk k dH;rw[hu]at dH;cases dH;simp at h5;exact hk h5.1.1.2
  ·intro f o hf
   rw[hu]
   split at h5
   ·rename_i fs
    simp only[bD]at h5
    obtain⟨Au,i',h6,h7⟩:=(KV h5.2).2 f o hf
    exact⟨fs,Au,i',rfl,by simpa using h6,h7⟩
   ·cases h5
   all_goals
    simp only[bD,List.isEmpty_iff]at h5
    rw[h5.2]at hf
    simp at hf
  ·intro fs vO
   rw[hu]at vO
   cases vO
   simp only[bD]at h5
   have:=(KV h5.2).1
   simpa using this
  ·intro hk
   rw[hu]
   split at h5
   ·rename_i fs
    simp only[bD,Bool.or_eq_true,Bool.not_eq_true']at h5
    obtain⟨⟨_,h6⟩,_⟩:=h5
    rcases h6 with h6|⟨⟨⟨⟨_,h7⟩,h8⟩,h9⟩,n_⟩
    ·have:=ef h6;omega
    ·exact⟨fs,rfl,ef h7,h8,h9,n_⟩
   ·cases h5
   all_goals
    simp[hk]at h5
 ·cases h
section
variable {M:Nat->Prop} {B:e_} {d:Nat} {up:Nat->Nat->Value} {ρ:List T} {G:Gh} {a:Act} {w:World} {S:Nat->af}
structure dD (M:Nat->Prop) (B:e_) (d:Nat) (up:Nat->Nat->Value) (ρ:List T) (G:Gh) (a:Act) (w:World) (k:Wk) (G1:Gh):Prop where
 rel:Rel M B d up (k.r.fK k.w) ρ G1 a w
 bm:dF (pk k.w) (λ_=>False) G w G1 w
theorem Wk.a_(k:Wk)(r:bE):k.get r=(k.r.fK k.w).get r:=by
 rw[St.a_]
 unfold Wk.get
 cases k.w.look r<;>rfl
theorem JB{W:St}{r:bE}{v:SV}{l:Lb}(h:pk W l):pk (W.set r v) l:=by
 cases l with
 |f=>exact h
 |x b=>
  show(W.set r v).look (.x b)≠none
  by_cases hr:r=.x b
  ·subst hr;rw[St.bz];simp
  ·rw[St.cF _ _ hr];exact h
 |o i p=>
  show(W.set r v).look (.o i)≠none
  by_cases hr:r=.o i
  ·subst hr;rw[St.bz];simp
  ·rw[St.cF _ _ hr];exact h
theorem JC(s W:St)(r:bE)(v:SV)(r':bE):(s.fK (W.set r v)).get r'=((s.fK W).set r v).get r':=by
 rw[St.a_]
 by_cases h:r=r'
 ·subst h;rw[St.bz,St.ci];rfl
 ·rw[St.cF _ _ h,St.eG _ _ h,St.a_]
theorem dD.start{s:St}(h:Rel M B d up s ρ G a w)(R:List bE)(ct:Ct):dD M B d up ρ G a w ⟨s.only R,[],ct,[]⟩ G:=by
 refine⟨h.forget λr=>?_,(dF.refl G w).mono (λ_ h=>h.elim) λ_ h=>h⟩
 by_cases hr:r∈R
 ·exact .inl (St.Bf s R hr)
 ·exact .inr (St.sL s R hr)
theorem dD.same{k k':Wk}{G1:Gh}(h:dD M B d up ρ G a w k G1)(hs:k.fq k'):dD M B d up ρ G a w k' G1:=by
 obtain⟨h1,h2,h3⟩:=hs
 exact⟨by rw[h1,h2];exact h.rel,by rw[h2];exact h.bm⟩
theorem dD.obj{k:Wk}{G1:Gh}(h:dD M B d up ρ G a w k G1)(id:Nat):cL G1 w ρ id (k.get (.o id)):=by
 rw[Wk.a_];exact h.rel.ob id
theorem dD.mw{k k':Wk}{G1:Gh}(h:dD M B d up ρ G a w k G1){id:Nat}(hk:k.mw id=some k'):
  ∃G2,dD M B d up ρ G a w k' G2∧G2.β=G1.β∧G2.H=G1.H∧k'.r=k.r∧k'.ct=k.ct∧k'.is=k.is:=by
 unfold Wk.mw at hk
 split at hk
 ·rename_i dp x hx
  cases hk
  rw[Wk.a_]at hx
  refine⟨_,⟨(h.rel.mw hx).congr (JC _ _ _ _),(h.bm.mono (λl hl=>JB hl) λ_ hn=>hn).trans ((G1.fM id true w).mono ?_ λ_ hn=>hn)⟩,rfl,rfl,rfl,rfl,rfl⟩
  rintro l ⟨p,rfl⟩
  show(k.w.set _ _).look (.o id)≠none
  rw[St.bz];simp
 ·cases hk;exact⟨G1,h,rfl,rfl,rfl,rfl,rfl⟩
 ·cases hk
theorem dD.flat{k k':Wk}{G1:Gh}(h:dD M B d up ρ G a w k G1){id:Nat}(hk:k.flat id=some k'):
  ∃G2,dD M B d up ρ G a w k' G2∧G2.β=G1.β∧G2.H=G1.H∧k'.r=k.r∧k'.ct=k.ct∧k'.is=k.is:=by
 unfold Wk.flat at hk
 split at hk
 ·rename_i dp x hx
  cases hk
  rw[Wk.a_]at hx
  refine⟨_,⟨(h.rel.flat hx).congr (JC _ _ _ _),(h.bm.mono (λl hl=>JB hl) λ_ hn=>hn).trans ((G1.fM id false w).mono ?_ λ_ hn=>hn)⟩,rfl,rfl,rfl,rfl,rfl⟩
  rintro l ⟨p,rfl⟩
  show(k.w.set _ _).look (.o id)≠none
  rw[St.bz];simp
 ·cases hk;exact⟨G1,h,rfl,rfl,rfl,rfl,rfl⟩
 ·cases hk
def bV(P:Program)(M:Nat->Prop)(B:e_)(d:Nat)(up:Nat->Nat->Value)(ρ:List T)(a:Act)(w:World)(s:St)(o:Oper)(W:St)(Q:Exit->Act->World->Prop):Prop:=
 o.wp P a w (λa' w'=>∃G',Rel M B d up (s.fK W) ρ G' a' w'∧a'.tmps.size=a.tmps.size) Q
theorem Bj(a:Act)(dst:Option Nat)(v:Value):(a.put dst v).tmps.size=a.tmps.size:=by
 cases dst<;>simp[Act.put]
theorem ag2{P:Program}{s:St}{k:Wk}{G1:Gh}(h:Rel M B d up s ρ G a w)(hk:dD M B d up ρ G a w k G1){o:Oper}{n:Nat}(ho:o.dst=some n)(hn:n<a.tmps.size)
  {v:Value}(hx:(execOp a.eval o).run P w=.ok (.value v) w){x:SV}(hv:cK G1 w ρ x v)(hm:∀i∈dA x,M i)(Q:Exit->Act->World->Prop):
  bV P M B d up ρ a w s o (k.w.set (.t d n) x) Q:=by
 simp only[bV,Oper.wp,hx,Oper.upon,ho]
 refine⟨G1,h.glue (s':=k.r) (hk.bm.mono (λl hl=>JB hl) λ_ hf=>hf) (λ_ hf=>hf.elim) (λ_ hm=>hm) ?_ ?_,Bj _ _ _⟩
 ·intro m qp;cases qp;rw[St.bz];simp
 ·exact(hk.rel.FG hn hv hm).congr (JC _ _ _ _)
theorem ag3{P:Program}{s:St}{k:Wk}{G1:Gh}(h:Rel M B d up s ρ G a w)(hk:dD M B d up ρ G a w k G1){o:Oper}(ho:o.dst=none)
  {v:Value}(hx:(execOp a.eval o).run P w=.ok (.value v) w)(Q:Exit->Act->World->Prop):
  bV P M B d up ρ a w s o k.w Q:=by
 simp only[bV,Oper.wp,hx,Oper.upon,ho]
 exact⟨G1,h.glue (s':=k.r) (dst:=none) (hk.bm.mono (λl hl=>hl) λ_ hf=>hf) (λ_ hf=>hf.elim) (λ_ hm=>hm) (λ_ hf=>by cases hf) hk.rel,rfl⟩
theorem ag4{v:Value}:cK G w ρ (A4 v) v:=by
 unfold A4
 split
 ·exact⟨_,rfl,rfl,λ_ h=>by cases h⟩
 ·rename_i dH
  cases hs:kW v with
  |false=>trivial
  |true=>
   refine⟨_,rfl,⟨.c v,by simp[Lf.fW,hs],.c hs⟩,λx h=>?_⟩
   subst h;simp[kW]at hs
theorem ag5{v:Value}:dA (A4 v)=[]:=by
 unfold A4
 split
 ·rfl
 ·cases kW v<;>rfl
theorem Ew{s:St}(h:Rel M B d up s ρ G a w)(x:Operand):cK G w ρ (cn d s.get x) (a.eval x)∧∀i∈dA (cn d s.get x),M i:=by
 cases x with
 |tmp t=>
  refine⟨?_,h.gm _⟩
  have:=h.tm d t (Nat.le_refl _)
  simpa[pi,Act.eval,cn]using this
 |const v=>exact⟨ag4,λi hi=>by simp[cn,ag5]at hi⟩
 |global g=>exact⟨trivial,λi hi=>by simp[cn,dA]at hi⟩
 |func f=>exact⟨rfl,λi hi=>by simp[cn,dA]at hi⟩
theorem dD.iV{k:Wk}{G1:Gh}(h:dD M B d up ρ G a w k G1)(x:Operand):cK G1 w ρ (cn d k.get x) (a.eval x)∧∀i∈dA (cn d k.get x),M i:=by
 have e:cn d k.get x=cn d (k.r.fK k.w).get x:=by
  cases x with
  |tmp t=>exact Wk.a_ _ _
  |_=>rfl
 rw[e];exact Ew h.rel x
theorem Wk.iu{k k':Wk}{x:SV}{y:Lf}{G1:Gh}{v:Value}(hk:dD M B d up ρ G a w k G1)(h:k.one x=some (k',y))(hd:k'.bJ S ρ)(hr:cK G1 w ρ x v):
  k.bJ S ρ∧k.fq k'∧∃t,y.fW ρ=some t∧fm (er G1.ω) w t v:=by
 unfold Wk.one at h
 split at h
 ·obtain⟨e,he,hc,_⟩:=hr
  cases he
  exact⟨Wk.mg h hd,Wk.eh h,Wk.lG h hd hc λid _=>hk.obj id⟩
 ·cases h
theorem fm.scalar{ω:Nat->Option Lb}{v u:Value}(h:fm ω w (.c v) u):u=v∧kW v=true:=by
 cases h with
 |c h=>exact⟨rfl,h⟩
theorem fm.rows{ω:Nat->Option Lb}{xs:List (List T)}{u:Value}(h:fm ω w (.l xs) u):∃b c,u=.slice b xs.length c∧(xs≠[]->xs.length<=c):=by
 cases h with
 |nil=>exact⟨_,_,rfl,λh=>absurd rfl h⟩
 |l _ hc=>exact⟨_,_,rfl,λ_=>hc⟩
end
section
variable {M:Nat->Prop} {B:e_} {d:Nat} {up:Nat->Nat->Value} {ρ:List T} {G:Gh} {a:Act} {w:World} {S:Nat->af} {P:Program}
def ca(d:Nat)(o:Oper)(k:Wk)(v:SV):Wk:=match o.dst with|some n=>k.set (.t d n) v|none=>k
theorem sP{s:St}{k:Wk}{G1:Gh}(h:Rel M B d up s ρ G a w)(hk:dD M B d up ρ G a w k G1){o:Oper}(hn:∀n,o.dst=some n->n<a.tmps.size)
  {v:Value}(hx:(execOp a.eval o).run P w=.ok (.value v) w){x:SV}(hv:cK G1 w ρ x v)(hm:∀i∈dA x,M i)(Q:Exit->Act->World->Prop):
  bV P M B d up ρ a w s o (ca d o k x).w Q:=by
 unfold ca
 cases ho:o.dst with
 |none=>exact ag3 h hk ho hx Q
 |some n=>exact ag2 h hk ho (hn n ho) hx hv hm Q
theorem SX{G1:Gh}{y:Lf}{t:T}{v:Value}(hy:y.fW ρ=some t)(hd:fm G1.q w t v)(ha:∀x,v≠.agg x):cK G1 w ρ (.v false [.p y]) v:=
 ⟨_,rfl,⟨t,hy,hd⟩,ha⟩
theorem FJ{G1:Gh}{y:Lf}{v:Value}(hy:y.fW ρ=some (.c v))(hs:kW v=true):cK G1 w ρ (.v false [.p y]) v:=
 SX hy (.c hs) λx hx=>by subst hx;simp[kW]at hs
theorem ag6{op:BinOp}{t:TypeId}{x y:Operand}{u v r:Value}(h:mu op u v=some r):
  ((do eqGuard op t x y u v;binOp op t u v:Sem Value)).run P w=.ok r w∧kW r=true:=by
 cases u<;>cases v<;>simp only[mu]at h<;>try cases h
 ·rename_i k n k' m
  have hg:(eqGuard op t x y (.int k n) (.int k' m)).run P w=.ok () w:=by
   unfold eqGuard;split<;>rfl
  rw[Sem.run_bind,hg]
  cases op<;>simp only at h<;>(repeat' (split at h))<;>(try cases h)<;>
   simp_all[binOp,Op.intArith,Op.intDiv,Op.intCmp,Op.intBits,Op.shift,kW]<;>(intro aAp;omega)
 ·rename_i s t'
  have hg:(eqGuard op t x y (.string s) (.string t')).run P w=.ok () w:=by
   unfold eqGuard;split<;>rfl
  rw[Sem.run_bind,hg]
  cases op<;>simp only at h<;>(try cases h)
  ·split at h
   ·rename_i hs
    cases h
    refine⟨?_,rfl⟩
    have:¬((s.size+t'.size:Nat):Int)>IntKind.i64.max:=by
     have:IntKind.i64.max=9223372036854775807:=by rfl
     simp only[r8]at hs
     omega
    simp only[Result.andThen_ok,binOp,Op.stringOp,if_neg this,Sem.run_pure]
   ·cases h
  ·exact⟨rfl,rfl⟩
  ·exact⟨rfl,rfl⟩
theorem ag7{op:BinOp}{t:TypeId}{x y:Operand}{u v r:Value}(ht:P.underlying t=some .bool)(h:Kz op u v=some r):
  ((do eqGuard op t x y u v;binOp op t u v:Sem Value)).run P w=.ok r w∧kW r=true:=by
 cases u<;>cases v<;>simp only[Kz]at h<;>try cases h
 rename_i p q
 have hg:(eqGuard op t x y (.bool p) (.bool q)).run P w=.ok () w:=by
  unfold eqGuard;split<;>rfl
 have he:(Op.equal t (.bool p) (.bool q)).run P w=.ok (p==q) w:=by
  have key:∀n,(Op.equalIn (n+1) t (.bool p) (.bool q)).run P w=.ok (p==q) w:=λn=>by
   simp only[Op.equalIn,Sem.run_bind,run_underlying ht,Result.andThen_ok,Sem.run_pure]
  exact key 9999
 rw[Sem.run_bind,hg]
 cases op<;>simp only at h<;>(try cases h)
 ·simp[binOp,he,kW]
 ·simp[binOp,he,kW]
theorem ag8{op:UnOp}{u r:Value}(h:unV op u=some r):(Op.unary op u).run P w=.ok r w∧kW r=true:=by
 cases u<;>simp only[unV]at h<;>try cases h
 ·cases op<;>simp only at h<;>(try cases h)
  exact⟨rfl,rfl⟩
 ·cases op<;>simp only at h<;>(try cases h)
  exact⟨rfl,rfl⟩
theorem SY{k k1 k2:Wk}{G1:Gh}{c e:Ce}{x y:Lf}{u v:Value}{p:Prim}(hk:dD M B d up ρ G a w k G1)
  (h1:k.val c=some (k1,x))(h2:k1.val e=some (k2,y))(hd:(k2.em p [x,y]).1.bJ S ρ)(hc:gv G1 w ρ c u)(he:gv G1 w ρ e v):
  k.bJ S ρ∧dD M B d up ρ G a w (k2.em p [x,y]).1 G1∧(k2.em p [x,y]).1.ct.i=k.ct.i∧∃t t' r,fm (er G1.ω) w t u∧fm (er G1.ω) w t' v∧p.ev [t,t']=some r∧(k2.em p [x,y]).2.fW ρ=some r:=by
 obtain⟨pR,r,hr,pn⟩:=Wk.bX hd
 have gx:=hk.same (Wk.eh h1)
 have c_:=gx.same (Wk.eh h2)
 have fR:=Wk.mg h2 pR
 obtain⟨t,ht,mE⟩:=Wk.lG h1 fR hc λid _=>hk.obj id
 obtain⟨t',jV,mO⟩:=Wk.lG h2 pR he λid _=>gx.obj id
 refine⟨Wk.mg h1 fR,c_.same (Wk.bR _ _ _),?_,t,t',r,mE,mO,?_,pn⟩
 ·rw[(Wk.bR k2 p [x,y]).i,(Wk.eh h2).i,(Wk.eh h1).i]
 ·simpa[Lf.bW ht,Lf.bW jV]using hr
structure eL (P:Program) (cx:Cx):Prop where
 ty:∀t ti,cx.ty t=some ti->uF P t ti
variable {cx:Cx} {cJ fA oi:Nat} {s:St} {R:List bE} {ct:Ct} {k':Wk} {o:Oper} {Q:Exit->Act->World->Prop}
theorem SZ(h:Rel M B d up s ρ G a w)(hn:∀n,o.dst=some n->n<a.tmps.size){x:Operand}(ho:o.op=.move x∨o.op=.assign x)
  (hk:jf cx cJ fA d o oi ⟨s.only R,[],ct,[]⟩=some k'):bV P M B d up ρ a w s o k'.w Q∧k'.ct.i=ct.i:=by
 have hw:=dD.start h R ct
 have hx:(execOp a.eval o).run P w=.ok (.value (a.eval x)) w:=by
  unfold execOp;rcases ho with ho|ho<;>rw[ho]<;>rfl
 have c_:some (ca d o ⟨s.only R,[],ct,[]⟩ (cn d (Wk.get ⟨s.only R,[],ct,[]⟩) x))=some k':=by
  rw[<-hk];unfold jf ca;rcases ho with ho|ho<;>rw[ho]<;>rfl
 cases c_
 obtain⟨h1,h2⟩:=hw.iV x
 refine⟨sP h hw hn hx h1 h2 Q,?_⟩
 unfold ca;cases o.dst<;>rfl
theorem cX{k:Wk}{v:SV}:(ca d o k v).bJ S ρ↔k.bJ S ρ:=by
 unfold ca;cases o.dst<;>rfl
theorem nu{k:Wk}{v:SV}:(ca d o k v).ct=k.ct:=by
 unfold ca;cases o.dst<;>rfl
theorem ag9(ek:eL P cx)(h:Rel M B d up s ρ G a w)(hn:∀n,o.dst=some n->n<a.tmps.size){op:BinOp}{t yt:TypeId}{x y:Operand}(ho:o.op=.binOp op t x y yt)
  {c e:Ce}(y8:cn d (Wk.get ⟨s.only R,[],ct,[]⟩) x=.v false [c])(FK:cn d (Wk.get ⟨s.only R,[],ct,[]⟩) y=.v false [e])
  (hk:jf cx cJ fA d o oi ⟨s.only R,[],ct,[]⟩=some k')(hd:k'.bJ S ρ):bV P M B d up ρ a w s o k'.w Q∧k'.ct.i=ct.i:=by
 have hw:=dD.start h R ct
 simp only[jf,ho,y8,FK,cN]at hk
 obtain⟨ti,f_,⟨k1,x1⟩,h1,⟨k2,y1⟩,h2,hk⟩:=hk
 have xO:=(hw.iV x).1
 have KW:=(hw.iV y).1
 rw[y8]at xO
 rw[FK]at KW
 obtain⟨_,po,hc,_⟩:=xO
 obtain⟨_,he1,he,_⟩:=KW
 cases po
 cases he1
 simp only at hk
 have hT:=ek.ty _ _ f_
 have fin:∀(p:Prim) (r:Value),(ca d o (k2.em p [x1,y1]).1 (.v false [.p (k2.em p [x1,y1]).2]))=k'->(execOp a.eval o).run P w=.ok (.value r) w->kW r=true->
   (k2.em p [x1,y1]).2.fW ρ=some (.c r)->dD M B d up ρ G a w (k2.em p [x1,y1]).1 G->(k2.em p [x1,y1]).1.ct.i=ct.i->bV P M B d up ρ a w s o k'.w Q∧k'.ct.i=ct.i:=by
  intro p r hp hr hs hv vQ hi
  subst hp
  refine⟨sP h vQ hn hr (FJ hv hs) (λi hi=>by simp[dA,dV]at hi) Q,?_⟩
  rw[nu];exact hi
 have hex:∀r,((do eqGuard op t x y (a.eval x) (a.eval y);binOp op t (a.eval x) (a.eval y):Sem Value)).run P w=.ok r w->(execOp a.eval o).run P w=.ok (.value r) w:=by
  intro r hr
  unfold execOp
  rw[ho]
  show Sem.run P (do let v <-(do eqGuard op t x y (a.eval x) (a.eval y);binOp op t (a.eval x) (a.eval y):Sem Value);pure (Next.value v)) w=_
  rw[Sem.run_bind,hr];rfl
 cases h4:Nat.beq ti.kd 4 with
 |true=>
  simp only[h4,cond_true,bG]at hk
  have jW:(k2.em (.bb op) [x1,y1]).1.bJ S ρ:=by
   have:(ca d o (k2.em (.bb op) [x1,y1]).1 (.v false [.p (k2.em (.bb op) [x1,y1]).2])).bJ S ρ:=by rw[show ca d o _ _=k' from hk];exact hd
   exact cX.1 this
  obtain⟨_,vQ,hi,t1,t2,r,fR,pR,hp,hv⟩:=SY hw h1 h2 jW hc he
  cases t1 with
  |l _=>simp[Prim.ev,T.val]at hp
  |c u=>
   cases t2 with
   |l _=>simp[Prim.ev,T.val]at hp
   |c v=>
    obtain⟨e1,_⟩:=fR.scalar
    obtain⟨e2,_⟩:=pR.scalar
    simp only[Prim.ev,T.val,Option.bind_some,cN,bG]at hp
    obtain⟨r',hb,rfl⟩:=hp
    obtain⟨hr,hs⟩:=ag7 (P:=P) (w:=w) (t:=t) (x:=x) (y:=y) (hT.bo (ef h4)) hb
    exact fin _ r' hk (hex r' (by rw[e1,e2];exact hr)) hs hv vQ hi
 |false=>
  simp only[h4,cond_false]at hk
  cases h5:(Nat.beq ti.kd 1||Nat.beq ti.kd 2)with
  |false=>simp[h5]at hk
  |true=>
   simp only[h5,cond_true,bG]at hk
   have jW:(k2.em (.bin op) [x1,y1]).1.bJ S ρ:=by
    have:(ca d o (k2.em (.bin op) [x1,y1]).1 (.v false [.p (k2.em (.bin op) [x1,y1]).2])).bJ S ρ:=by rw[show ca d o _ _=k' from hk];exact hd
    exact cX.1 this
   obtain⟨_,vQ,hi,t1,t2,r,fR,pR,hp,hv⟩:=SY hw h1 h2 jW hc he
   cases t1 with
   |l _=>simp[Prim.ev,T.val]at hp
   |c u=>
    cases t2 with
    |l _=>simp[Prim.ev,T.val]at hp
    |c v=>
     obtain⟨e1,_⟩:=fR.scalar
     obtain⟨e2,_⟩:=pR.scalar
     simp only[Prim.ev,T.val,Option.bind_some,cN,bG]at hp
     obtain⟨r',hb,rfl⟩:=hp
     obtain⟨hr,hs⟩:=ag6 (P:=P) (w:=w) (t:=t) (x:=x) (y:=y) hb
     exact fin _ r' hk (hex r' (by rw[e1,e2];exact hr)) hs hv vQ hi
end
section
variable {M:Nat->Prop} {B:e_} {d:Nat} {up:Nat->Nat->Value} {ρ:List T} {G:Gh} {a:Act} {w:World} {S:Nat->af} {P:Program}
variable {cx:Cx} {cJ fA oi:Nat} {s:St} {R:List bE} {ct:Ct} {k':Wk} {o:Oper} {Q:Exit->Act->World->Prop}
theorem Bk(h:Rel M B d up s ρ G a w)(hn:∀n,o.dst=some n->n<a.tmps.size){k k1:Wk}{G1:Gh}(hk:dD M B d up ρ G a w k G1){x:SV}{v:Value}{y:Lf}{p:Prim}
  (h1:k.one x=some (k1,y))(hr:cK G1 w ρ x v)(hd:(ca d o (k1.em p [y]).1 (.v false [.p (k1.em p [y]).2])).bJ S ρ)
  (hx:∀t r,fm (er G1.ω) w t v->p.ev [t]=some r->∃u,r=.c u∧kW u=true∧(execOp a.eval o).run P w=.ok (.value u) w):
  bV P M B d up ρ a w s o (ca d o (k1.em p [y]).1 (.v false [.p (k1.em p [y]).2])).w Q∧(ca d o (k1.em p [y]).1 (.v false [.p (k1.em p [y]).2])).ct.i=k.ct.i:=by
 have jW:=cX.1 hd
 obtain⟨fR,r,pu,hv⟩:=Wk.bX jW
 obtain⟨_,hs,t,ht,mE⟩:=Wk.iu hk h1 fR hr
 obtain⟨u,rfl,hsu,eR⟩:=hx t r mE (by simpa[Lf.bW ht]using pu)
 refine⟨sP h ((hk.same hs).same (Wk.bR _ _ _)) hn eR (FJ hv hsu) (λi hi=>by simp[dA,dV]at hi) Q,?_⟩
 rw[nu,(Wk.bR k1 p [y]).i,hs.i]
theorem S0(h:Rel M B d up s ρ G a w)(hn:∀n,o.dst=some n->n<a.tmps.size){k k1 k2:Wk}{G1:Gh}(hk:dD M B d up ρ G a w k G1){x x':SV}{v v':Value}{y y':Lf}{p:Prim}
  (h1:k.one x=some (k1,y))(h2:k1.one x'=some (k2,y'))(hr:cK G1 w ρ x v)(iM:cK G1 w ρ x' v')(hd:(ca d o (k2.em p [y,y']).1 (.v false [.p (k2.em p [y,y']).2])).bJ S ρ)
  (hx:∀t t' r,fm (er G1.ω) w t v->fm (er G1.ω) w t' v'->p.ev [t,t']=some r->∃u,r=.c u∧kW u=true∧(execOp a.eval o).run P w=.ok (.value u) w):
  bV P M B d up ρ a w s o (ca d o (k2.em p [y,y']).1 (.v false [.p (k2.em p [y,y']).2])).w Q∧(ca d o (k2.em p [y,y']).1 (.v false [.p (k2.em p [y,y']).2])).ct.i=k.ct.i:=by
 have jW:=cX.1 hd
 obtain⟨pR,r,pu,hv⟩:=Wk.bX jW
 have nv:k.fq k1:=by
  unfold Wk.one at h1;split at h1
  ·exact Wk.eh h1
  ·cases h1
 obtain⟨fR,oB,t',jV,mO⟩:=Wk.iu (hk.same nv) h2 pR iM
 obtain⟨_,_,t,ht,mE⟩:=Wk.iu hk h1 fR hr
 obtain⟨u,rfl,hsu,eR⟩:=hx t t' r mE mO (by simpa[Lf.bW ht,Lf.bW jV]using pu)
 refine⟨sP h (((hk.same nv).same oB).same (Wk.bR _ _ _)) hn eR (FJ hv hsu) (λi hi=>by simp[dA,dV]at hi) Q,?_⟩
 rw[nu,(Wk.bR k2 p [y,y']).i,oB.i,nv.i]
theorem ahb(h:Rel M B d up s ρ G a w)(hn:∀n,o.dst=some n->n<a.tmps.size){op:UnOp}{t:TypeId}{x:Operand}(ho:o.op=.unOp op t x)
  (hk:jf cx cJ fA d o oi ⟨s.only R,[],ct,[]⟩=some k')(hd:k'.bJ S ρ):bV P M B d up ρ a w s o k'.w Q∧k'.ct.i=ct.i:=by
 have hw:=dD.start h R ct
 simp only[jf,ho,cN,bG]at hk
 obtain⟨⟨k1,y⟩,h1,hk⟩:=hk
 subst hk
 refine Bk h hn hw h1 (hw.iV x).1 hd λt r mE hr=>?_
 cases t with
 |l _=>simp[Prim.ev,T.val]at hr
 |c u=>
  obtain⟨e,_⟩:=mE.scalar
  simp only[Prim.ev,T.val,Option.bind_some,cN,bG]at hr
  obtain⟨r',hb,rfl⟩:=hr
  obtain⟨eR,hs⟩:=ag8 (P:=P) (w:=w) hb
  refine⟨r',rfl,hs,?_⟩
  unfold execOp;rw[ho]
  show Sem.run P (do let v <-Op.unary op (a.eval x);pure (Next.value v)) w=_
  rw[e,Sem.run_bind,eR];rfl
theorem ahc(ns:List Int):∀s:ByteArray,ns.foldl (λr n=>r.push (UInt8.ofNat n.toNat)) s=⟨s.data++(ns.map λn=>UInt8.ofNat n.toNat).toArray⟩:=by
 induction ns with
 |nil=>intro s;simp
 |cons n ns ih=>intro s;rw[List.foldl_cons,ih];simp[ByteArray.push]
theorem ahd(ns:List Int):ns.foldl (λr n=>r.push (UInt8.ofNat n.toNat)) ByteArray.empty=A3 ns:=by
 rw[ahc];unfold A3;congr 1;exact Array.empty_append
theorem S1:∀{xs:List (List T)} {ns:List Int},yK xs=some ns->ns.length=xs.length∧∀(j:Nat) (n:Int),ns[j]?=some n->xs[j]?=some [T.c (.int .u8 n)]
 | [],ns,h=>by
  simp only[yK,bG]at h
  subst h
  exact⟨rfl,λj n h=>by simp at h⟩
 |r::rs,ns,h=>by
  simp only[yK,cN,bG]at h
  obtain⟨n,h1,ns',h2,rfl⟩:=h
  obtain⟨g1,g2⟩:=S1 h2
  refine⟨by simp[g1],λj m hj=>?_⟩
  cases j with
  |zero=>
   simp only[List.getElem?_cons_zero,bG]at hj⊢
   subst hj
   unfold SF at h1
   split at h1
   ·cases h1;rfl
   ·cases h1
  |succ j=>simpa using g2 j m (by simpa using hj)
theorem ahe{ω:Nat->Option Lb}{xs:List (List T)}{v:Value}{ns:List Int}(h:fm ω w (.l xs) v)(hb:yK xs=some ns):(Conv.bytesToString v).run P w=.ok (.string (A3 ns)) w:=by
 obtain⟨hlen,bI⟩:=S1 hb
 rw[<-ahd]
 cases h with
 |nil=>
  have:ns=[]:=List.eq_nil_of_length_eq_zero hlen
  subst this
  rename_i a0 cap
  cases a0 with
  |none=>simp[Conv.bytesToString,Sem.run_pure]
  |some b=>exact run_bytesToString w b 0 cap [] (run_loadCells_list w b [] λj v hj=>by simp at hj)
 |l hw hc hn bf h1 h2=>
  rename_i b off wd cap cv
  refine run_bytesToString w _ _ _ ns ?_
  rw[<-hlen,<-List.length_map (f:=Value.int .u8)]
  refine run_loadCells_list w _ _ λj v hj=>?_
  rw[List.getElem?_map,Option.map_eq_some_iff]at hj
  obtain⟨n,hj,rfl⟩:=hj
  have hx:=bI j n hj
  have rq:wd=1:=by
   have:=hw _ (List.mem_of_getElem? hx)
   simpa using this.symm
  subst rq
  have h3:d_ xs j 0=some (.c (.int .u8 n)):=by simp[d_,hx]
  have h5:=h1 j 0 _ h3
  rw[(h2 j 0 _ h3).scalar.1]at h5
  rw[Addr.add_lit,show off+j=off+(j*1+0) by omega]
  exact h5
theorem ahf(ek:eL P cx)(h:Rel M B d up s ρ G a w)(hn:∀n,o.dst=some n->n<a.tmps.size){t1 t2:TypeId}{x:Operand}(ho:o.op=.convert t1 t2 x)
  (hk:jf cx cJ fA d o oi ⟨s.only R,[],ct,[]⟩=some k')(hd:k'.bJ S ρ):bV P M B d up ρ a w s o k'.w Q∧k'.ct.i=ct.i:=by
 have hw:=dD.start h R ct
 simp only[jf,ho,cN]at hk
 obtain⟨si,S2,ti,f_,⟨k1,y⟩,h1,hk⟩:=hk
 split at hk
 ·rename_i kk z hz
  cases hb:(Nat.beq ti.kd 1&&Nat.beq si.kd 1)with
  |false=>rw[hb]at hk;cases hk
  |true=>
   rw[hb]at hk
   simp only[cond_true,bG]at hk
   subst hk
   rw[bD]at hb
   have y9:=(ek.ty _ _ f_).ik (ef hb.1) kk z hz
   obtain⟨k0,Rq⟩:=(ek.ty _ _ S2).it (ef hb.2)
   refine Bk h hn hw h1 (hw.iV x).1 hd λt r mE hr=>?_
   cases t with
   |l _=>simp[Prim.ev]at hr
   |c u=>
    obtain⟨e,_⟩:=mE.scalar
    cases u<;>simp only[Prim.ev,bG]at hr<;>try cases hr
    rename_i k3 n mF
    refine⟨_,rfl,rfl,?_⟩
    unfold execOp;rw[ho]
    show Sem.run P (do let v <-convert t1 t2 (a.eval x);pure (Next.value v)) w=_
    rw[e,Sem.run_bind]
    have:(convert t1 t2 (.int k3 n)).run P w=.ok (.int kk (kk.wrap n)) w:=by
     unfold convert
     simp only[Sem.run_bind,run_underlying Rq,run_underlying y9,Result.andThen_ok]
     rfl
    rw[this];rfl
 ·rename_i z hz
  cases hb:(Nat.beq ti.kd 2&&Nat.beq si.kd 3)with
  |false=>rw[hb]at hk;cases hk
  |true=>
   rw[hb]at hk
   simp only[cond_true,cN]at hk
   obtain⟨te,qs,hk⟩:=hk
   split at hk
   ·rename_i z2 tU
    cases pw:Nat.beq te.kd 1 with
    |false=>rw[pw]at hk;cases hk
    |true=>
     rw[pw]at hk
     simp only[cond_true,bG]at hk
     subst hk
     rw[bD]at hb
     have Rq:=(ek.ty _ _ S2).sl (ef hb.2)
     have y9:=(ek.ty _ _ f_).st (ef hb.1)
     have hu3:=(ek.ty _ _ qs).ik (ef pw) .u8 z2 tU
     refine Bk h hn hw h1 (hw.iV x).1 hd λt r mE hr=>?_
     cases t with
     |c u=>simp[Prim.ev]at hr
     |l xs=>
      simp only[Prim.ev,cN,bG]at hr
      obtain⟨ns,hns,rfl⟩:=hr
      refine⟨_,rfl,rfl,?_⟩
      unfold execOp;rw[ho]
      show Sem.run P (do let v <-convert t1 t2 (a.eval x);pure (Next.value v)) w=_
      rw[Sem.run_bind]
      obtain⟨b,c,e,_⟩:=mE.rows
      have:(convert t1 t2 (a.eval x)).run P w=.ok (.string (A3 ns)) w:=by
       have h0:=ahe (P:=P) mE hns
       rw[e]at h0⊢
       rw[run_convert_bytes_string w t1 t2 si.el b xs.length c Rq hu3 y9]
       exact h0
      rw[this];rfl
   ·cases hk
 ·cases hk
theorem KX{x:Sem Value}{v:Value}(h:x.run P w=.ok v w):(do let v <-x;pure (Next.value v):Sem Next).run P w=.ok (.value v) w:=by
 rw[Sem.run_bind,h];rfl
theorem S3{c:Call}{b:Builtin}(ho:o.op=.call c)(hc:c.callee=.builtin b){r:Result Next}
  (h:(builtin b c.argTypes o.type (c.args.map λ | .const _=>true|_=>false) (c.args.map a.eval)).run P w=r):(execOp a.eval o).run P w=r:=by
 unfold execOp
 rw[ho]
 show Sem.run P (do let d <-resolve a.eval c o.type;invoke d.target d.args) w=r
 simp only[resolve,hc]
 exact h
theorem ahh(h:Rel M B d up s ρ G a w)(hn:∀n,o.dst=some n->n<a.tmps.size)(ek:eL P cx){c:Call}{x:Operand}(ho:o.op=.call c)(hc:c.callee=.builtin .len)(fD:c.args.toList=[x])
  {ti:TI}(ht:(c.argTypes[0]?).bind cx.ty=some ti)(pT:ti.kd=3){k k1:Wk}{G1:Gh}{y:Lf}(hw:dD M B d up ρ G a w k G1)
  (h1:k.one (cn d k.get x)=some (k1,y))(hd:(ca d o (k1.em .len [y]).1 (.v false [.p (k1.em .len [y]).2])).bJ S ρ):
  bV P M B d up ρ a w s o (ca d o (k1.em .len [y]).1 (.v false [.p (k1.em .len [y]).2])).w Q∧(ca d o (k1.em .len [y]).1 (.v false [.p (k1.em .len [y]).2])).ct.i=k.ct.i:=by
 refine Bk h hn hw h1 (hw.iV x).1 hd λt r mE hr=>?_
 have hA:c.args=#[x]:=Array.ext' fD
 cases KY:c.argTypes[0]? with
 |none=>simp[KY]at ht
 |some tt=>
  have hT:=ek.ty tt ti (by simpa[KY]using ht)
  have hu:=hT.sl pT
  cases t with
  |l xs=>
   obtain⟨b,cap,e,_⟩:=mE.rows
   simp only[Prim.ev,bG]at hr
   subst hr
   refine⟨_,rfl,rfl,S3 ho hc ?_⟩
   rw[hA]
   refine KX ?_
   simp[e,Builtin.len_,KY,run_underlying hu,goInt]
  |c v=>simp[Prim.ev]at hr
theorem ahi(h:Rel M B d up s ρ G a w)(hn:∀n,o.dst=some n->n<a.tmps.size)(ek:eL P cx){c:Call}{x:Operand}(ho:o.op=.call c)(hc:c.callee=.builtin .len)(fD:c.args.toList=[x])
  {ti:TI}(ht:(c.argTypes[0]?).bind cx.ty=some ti)(pT:ti.kd=2){k k1:Wk}{G1:Gh}{y:Lf}(hw:dD M B d up ρ G a w k G1)
  (h1:k.one (cn d k.get x)=some (k1,y))(hd:(ca d o (k1.em .lens [y]).1 (.v false [.p (k1.em .lens [y]).2])).bJ S ρ):
  bV P M B d up ρ a w s o (ca d o (k1.em .lens [y]).1 (.v false [.p (k1.em .lens [y]).2])).w Q∧(ca d o (k1.em .lens [y]).1 (.v false [.p (k1.em .lens [y]).2])).ct.i=k.ct.i:=by
 refine Bk h hn hw h1 (hw.iV x).1 hd λt r mE hr=>?_
 have hA:c.args=#[x]:=Array.ext' fD
 cases KY:c.argTypes[0]? with
 |none=>simp[KY]at ht
 |some tt=>
  have hT:=ek.ty tt ti (by simpa[KY]using ht)
  have hu:=hT.st pT
  cases t with
  |l xs=>simp[Prim.ev]at hr
  |c v=>
   obtain⟨e,hs⟩:=mE.scalar
   cases v with
   |string str=>
    simp only[Prim.ev,bG]at hr
    subst hr
    refine⟨_,rfl,rfl,S3 ho hc ?_⟩
    rw[hA]
    refine KX ?_
    simp[e,Builtin.len_,KY,run_underlying hu,goInt]
   |_=>simp[Prim.ev]at hr
theorem S4(h:Rel M B d up s ρ G a w)(hn:∀n,o.dst=some n->n<a.tmps.size){c:Call}{x x':Operand}(ho:o.op=.call c)(fD:c.args.toList=[x,x'])
  {p:Prim}(hc:c.callee=.builtin .max∧p=.mx∨c.callee=.builtin .min∧p=.mn){k k1 k2:Wk}{G1:Gh}{y y':Lf}(hw:dD M B d up ρ G a w k G1)
  (h1:k.one (cn d k.get x)=some (k1,y))(h2:k1.one (cn d k.get x')=some (k2,y'))(hd:(ca d o (k2.em p [y,y']).1 (.v false [.p (k2.em p [y,y']).2])).bJ S ρ):
  bV P M B d up ρ a w s o (ca d o (k2.em p [y,y']).1 (.v false [.p (k2.em p [y,y']).2])).w Q∧(ca d o (k2.em p [y,y']).1 (.v false [.p (k2.em p [y,y']).2])).ct.i=k.ct.i:=by
 refine S0 h hn hw h1 h2 (hw.iV x).1 (hw.iV x').1 hd λt t' r mE mO hr=>?_
 have hA:c.args=#[x,x']:=Array.ext' fD
 cases t with
 |l _=>rcases hc with⟨_,rfl⟩|⟨_,rfl⟩<;>simp[Prim.ev]at hr
 |c u=>
  cases t' with
  |l _=>rcases hc with⟨_,rfl⟩|⟨_,rfl⟩<;>cases u<;>simp[Prim.ev]at hr
  |c u'=>
   obtain⟨e,_⟩:=mE.scalar
   obtain⟨e',_⟩:=mO.scalar
   cases u<;>cases u'<;>rcases hc with⟨hc,rfl⟩|⟨hc,rfl⟩<;>simp only[Prim.ev,bG]at hr<;>try cases hr
   ·exact⟨_,rfl,rfl,S3 ho hc (by rw[hA];simp[builtin,Builtin.max_,Builtin.max2,e,e'])⟩
   ·exact⟨_,rfl,rfl,S3 ho hc (by rw[hA];simp[builtin,Builtin.min_,Builtin.min2,e,e'])⟩
theorem Ey{x:Sem Value}{v:Value}(he:execOp a.eval o=(do let v <-x;pure (Next.value v)))(h:x.run P w=.ok v w):(execOp a.eval o).run P w=.ok (.value v) w:=by
 rw[he];exact KX h
theorem ahj(h:Rel M B d up s ρ G a w)(hn:∀n,o.dst=some n->n<a.tmps.size){x x':Operand}{t:TypeId}(ho:o.op=.index t x x')(ek:eL P cx){ti:TI}(ht:cx.ty t=some ti)(pT:ti.kd=2)
  {k k1 k2:Wk}{G1:Gh}{y y':Lf}(hw:dD M B d up ρ G a w k G1)
  (h1:k.one (cn d k.get x)=some (k1,y))(h2:k1.one (cn d k.get x')=some (k2,y'))(hd:(ca d o (k2.em .idx [y,y']).1 (.v false [.p (k2.em .idx [y,y']).2])).bJ S ρ):
  bV P M B d up ρ a w s o (ca d o (k2.em .idx [y,y']).1 (.v false [.p (k2.em .idx [y,y']).2])).w Q∧(ca d o (k2.em .idx [y,y']).1 (.v false [.p (k2.em .idx [y,y']).2])).ct.i=k.ct.i:=by
 refine S0 h hn hw h1 h2 (hw.iV x).1 (hw.iV x').1 hd λt1 t2 r mE mO hr=>?_
 have hu:=(ek.ty _ _ ht).st pT
 cases t1 with
 |l _=>cases t2<;>simp[Prim.ev]at hr
 |c u=>
  cases t2 with
  |l _=>cases u<;>simp[Prim.ev]at hr
  |c u'=>
   obtain⟨e,_⟩:=mE.scalar
   obtain⟨e',_⟩:=mO.scalar
   cases u with
   |string str=>
    cases u' with
    |int kk n=>
     simp only[Prim.ev]at hr
     split at hr
     ·rename_i h0
      split at hr
      ·rename_i bf
       simp only[bG]at hr
       subst hr
       refine⟨_,rfl,rfl,Ey (x:=Instr.index t (a.eval x) (a.eval x')) (by unfold execOp;rw[ho]) ?_⟩
       have hg:str[n.toNat]?=some (str.get n.toNat bf):=by
        simp[getElem?_pos,bf];rfl
       simp[Instr.index,e,e',asIntOf,run_underlying hu,h0,hg]
      ·cases hr
     ·cases hr
    |_=>simp[Prim.ev]at hr
   |_=>cases u'<;>simp[Prim.ev]at hr
theorem ahk(h:Rel M B d up s ρ G a w)(hn:∀n,o.dst=some n->n<a.tmps.size){x:Operand}(ho:o.op=.nilCheck x)
  (hk:jf cx cJ fA d o oi ⟨s.only R,[],ct,[]⟩=some k'):bV P M B d up ρ a w s o k'.w Q∧k'.ct.i=ct.i:=by
 have hw:=dD.start h R ct
 obtain⟨hr,hm⟩:=hw.iV x
 have key:∀(v:SV) (ad:Addr),cn d (Wk.get ⟨s.only R,[],ct,[]⟩) x=v->a.eval x=.pointer (some ad)->some (ca d o ⟨s.only R,[],ct,[]⟩ v)=some k'->bV P M B d up ρ a w s o k'.w Q∧k'.ct.i=ct.i:=by
  intro v ad hv he hk
  cases hk
  refine⟨sP h hw hn (v:=.pointer (some ad)) ?_ (by rw[<-he,<-hv];exact hr) (by rw[<-hv];exact hm) Q,by rw[nu]⟩
  unfold execOp
  rw[ho]
  show Sem.run P (match a.eval x with| .pointer none| .nilIface| .nilFunc=>runtimePanic .nilDeref| .func (.method name) first captured=>_|x=>pure (Next.value x)) w=_
  rw[he];rfl
 simp only[jf,ho]at hk
 split at hk
 ·rename_i bx off hv
  rw[hv]at hr
  exact key _ _ hv hr hk
 ·rename_i id q ix wd off hv
  rw[hv]at hr
  obtain⟨p,b,n,cap,i,_,_,_,_,he⟩:=hr
  exact key _ _ hv he hk
 ·rename_i s' ix wd off hv
  rw[hv]at hr
  obtain⟨xs,i,r,b,base,_,_,_,he,_⟩:=hr
  exact key _ _ hv he hk
 ·cases hk
theorem ahl(h:Rel M B d up s ρ G a w)(hn:∀n,o.dst=some n->n<a.tmps.size){x:Operand}{i:Nat}(ho:o.op=.extract x i)
  (hk:jf cx cJ fA d o oi ⟨s.only R,[],ct,[]⟩=some k'):bV P M B d up ρ a w s o k'.w Q∧k'.ct.i=ct.i:=by
 have hw:=dD.start h R ct
 obtain⟨hr,hm⟩:=hw.iV x
 simp only[jf,ho]at hk
 split at hk
 ·rename_i vs hv
  rw[hv]at hr hm
  simp only[cN,bG]at hk
  obtain⟨u,hu,hk⟩:=hk
  have c_:ca d o ⟨s.only R,[],ct,[]⟩ (.v u.1 u.2)=k':=hk
  subst c_
  obtain⟨us,he,pU⟩:=hr
  have main:∀(vs:List (Bool×List Ce)) (us:List Value) (i:Nat) (u:Bool×List Ce),gK G w ρ vs us->vs[i]?=some u->
    ∃v,us[i]?=some v∧fC G w ρ u.1 u.2 v∧∀j∈dV u.2,j∈sK vs:=by
   intro vs
   induction vs with
   |nil=>intro us i u _ hi;simp at hi
   |cons y vs ih=>
    intro us i u hr hi
    cases us with
    |nil=>exact hr.elim
    |cons z us=>
     cases i with
     |zero=>simp at hi;subst hi;exact⟨z,rfl,hr.1,λj hj=>by simp[sK,hj]⟩
     |succ i=>
      obtain⟨v,h1,h2,h3⟩:=ih us i u hr.2 (by simpa using hi)
      exact⟨v,by simpa using h1,h2,λj hj=>by simp[sK,h3 j hj]⟩
  obtain⟨v,h1,h2,h3⟩:=main vs us i u pU hu
  refine⟨sP h hw hn (v:=v) (x:=.v u.1 u.2) (Ey (x:=Instr.extract (a.eval x) i) (by unfold execOp;rw[ho]) ?_) h2 (λj hj=>hm j (h3 j hj)) Q,by rw[nu]⟩
  rw[he]
  simp[Instr.extract,h1]
 ·cases hk
theorem ahm(ek:eL P cx)(h:Rel M B d up s ρ G a w)(hn:∀n,o.dst=some n->n<a.tmps.size){x:Operand}{t f:Nat}(ho:o.op=.fieldAddr t x f)
  (hk:jf cx cJ fA d o oi ⟨s.only R,[],ct,[]⟩=some k'):bV P M B d up ρ a w s o k'.w Q∧k'.ct.i=ct.i:=by
 have hw:=dD.start h R ct
 obtain⟨hr,hm⟩:=hw.iV x
 simp only[jf,ho,cN,bG]at hk
 obtain⟨v,hv,hk⟩:=hk
 have c_:ca d o ⟨s.only R,[],ct,[]⟩ v=k':=hk
 subst c_
 have run:∀(ti:TI) (of:Nat×Nat) (b oo:Nat),cx.ty t=some ti->ti.fs[f]?=some of->a.eval x=.pointer (some ⟨b,oo,none⟩)->
   (execOp a.eval o).run P w=.ok (.value (.pointer (some ⟨b,oo+of.1,none⟩))) w:=by
  intro ti of b oo f_ hf he
  obtain⟨fs,Au,i,h1,h2,h3,h4,h5,_⟩:=(ek.ty _ _ f_).fs f of hf
  refine Ey (x:=Instr.fieldAt t (a.eval x) f) (by unfold execOp;rw[ho]) ?_
  simp[Instr.fieldAt,run_underlying h1,h2,he,Instr.sureAddr,fieldPlace,sizeOf,typeInfo,h4,h5,h3,Addr.add_lit]
 unfold fieldAt at hv
 split at hv
 ·rename_i bx off eo
  rw[eo]at hr hm
  simp only[cN,bG]at hv
  obtain⟨ti,f_,of,hf,rfl⟩:=hv
  exact⟨sP h hw hn (x:=.pt bx (off+of.1)) (run ti of _ _ f_ hf hr) rfl hm Q,by rw[nu]⟩
 ·rename_i id q ix wd off eo
  rw[eo]at hr hm
  simp only[cN,bG]at hv
  obtain⟨ti,f_,of,hf,rfl⟩:=hv
  obtain⟨p,b,n,cap,i,h1,h2,h3,h4,he⟩:=hr
  exact⟨sP h hw hn (x:=.ep id q ix wd (off+of.1)) (run ti of _ _ f_ hf he) ⟨p,b,n,cap,i,h1,h2,h3,h4,by rw[Nat.add_assoc]⟩ hm Q,by rw[nu]⟩
 ·rename_i s' ix wd off eo
  rw[eo]at hr hm
  simp only[cN,bG]at hv
  obtain⟨ti,f_,of,hf,rfl⟩:=hv
  obtain⟨xs,i,r,b,base,h1,h2,h3,he,h5⟩:=hr
  exact⟨sP h hw hn (x:=.fp s' ix wd (off+of.1)) (run ti of _ _ f_ hf he) ⟨xs,i,r,b,base,h1,h2,h3,by rw[Nat.add_assoc],h5⟩ hm Q,by rw[nu]⟩
 ·cases hv
theorem fm.one{ω:Nat->Option Lb}{t:T}{v:Value}(h:fm ω w t v):v.oneCell'=true:=by
 cases h with
 |c h=>cases v<;>simp_all[kW,Value.oneCell']
 |nil=>rfl
 |l=>rfl
theorem gv.one{e:Ce}{v:Value}(h:gv G w ρ e v):v.oneCell'=true:=by
 cases e with
 |p x=>obtain⟨t,_,h⟩:=h;exact h.one
 |o id q=>obtain⟨p,_,rfl⟩:=h;obtain⟨x,n,c,h⟩:=G.hs id p;rw[h];rfl
 |n=>cases h;rfl
 |d=>exact h
theorem ahn{v:Value}(h:v.oneCell'=true):∀x,v≠.agg x:=λx e=>by subst e;cases h
theorem bk.length:∀{cs:List Ce} {vs:List Value},bk G w ρ cs vs->cs.length=vs.length
 | [],[],_=>rfl
 | [],_::_,h=>h.elim
 |_::_,[],h=>h.elim
 |_::cs,_::vs,h=>by simp[bk.length h.2]
theorem bk.drop:∀{cs:List Ce} {vs:List Value} (n:Nat),bk G w ρ cs vs->bk G w ρ (cs.drop n) (vs.drop n)
 |_,_,0,h=>h
 | [],[],n+1,_=>trivial
 | [],_::_,_,h=>h.elim
 |_::_,[],_,h=>h.elim
 |_::cs,_::vs,n+1,h=>bk.drop n h.2
theorem bk.take:∀{cs:List Ce} {vs:List Value} (n:Nat),bk G w ρ cs vs->bk G w ρ (cs.take n) (vs.take n)
 |_,_,0,h=>trivial
 | [],[],n+1,_=>trivial
 | [],_::_,_,h=>h.elim
 |_::_,[],_,h=>h.elim
 |_::cs,_::vs,n+1,h=>⟨h.1,bk.take n h.2⟩
theorem bk.one:∀{cs:List Ce} {vs:List Value},bk G w ρ cs vs->∀v∈vs,v.oneCell'=true
 | [],[],_,v,hv=>by cases hv
 | [],_::_,h,_,_=>h.elim
 |_::_,[],h,_,_=>h.elim
 |_::cs,_::vs,h,v,hv=>by
  cases hv with
  |head=>exact h.1.one
  |tail _ hv=>exact bk.one h.2 v hv
theorem KZ(cs:List Ce)(n:Nat):∀i∈dV (cs.drop n),i∈dV cs:=by
 induction cs generalizing n with
 |nil=>intro i hi;simp at hi;exact hi
 |cons c cs ih=>
  intro i hi
  cases n with
  |zero=>exact hi
  |succ n=>rw[yW];exact List.mem_append_right _ (ih n i (by simpa using hi))
theorem K1(cs:List Ce)(n:Nat):∀i∈dV (cs.take n),i∈dV cs:=by
 induction cs generalizing n with
 |nil=>intro i hi;simp at hi;exact hi
 |cons c cs ih=>
  intro i hi
  cases n with
  |zero=>simp[dV]at hi
  |succ n=>
   rw[List.take_succ_cons,yW]at hi
   rw[yW]
   rcases List.mem_append.1 hi with hi|hi
   ·exact List.mem_append_left _ hi
   ·exact List.mem_append_right _ (ih n i hi)
theorem Bl{t:Nat}{ti:TI}(hT:uF P t ti){b off:Nat}{vs:List Value}(hl:vs.length=ti.sz)
  (hc:∀j v,vs[j]?=some v->w.cell? ⟨b,off+j,none⟩=some v):
  (Instr.loadAt t (.pointer (some ⟨b,off,none⟩))).run P w=.ok (if ti.ag then .agg vs.toArray else vs.getD 0 undef) w:=by
 obtain⟨i,z,hi,hs,_,_,_⟩:=hT.info
 obtain⟨u,hu,od,y_⟩:=hT.ag
 have sQ:(loadCells ⟨b,off,none⟩ vs.length).run P w=.ok vs.toArray w:=
  run_loadCells_list w _ vs λj v hj=>by rw[Addr.add_lit];exact hc j v hj
 cases hb:ti.ag with
 |true=>
  obtain⟨fs,rfl⟩:=od.1 hb
  simp[Instr.loadAt,Instr.sureAddr,loadVar,isAgg,run_underlying hu,sizeOf,typeInfo,hi,hs,<-hl,sQ]
 |false=>
  have h1:=hT.one hb
  obtain⟨v,rfl⟩:∃v,vs=[v]:=by
   cases vs with
   |nil=>simp at hl;omega
   |cons v vs=>cases vs with
    |nil=>exact⟨v,rfl⟩
    |cons _ _=>simp at hl;omega
  have JD:=hc 0 v rfl
  have FL:(isAgg t).run P w=.ok false w:=by
   simp only[isAgg,Sem.run_bind,run_underlying hu,Result.andThen_ok]
   cases u with
   |struct fs=>have:=od.2 ⟨fs,rfl⟩;rw[hb]at this;cases this
   |array n e=>exact absurd rfl (y_ n e)
   |_=>rfl
  simp only[Nat.add_zero]at JD
  simp[Instr.loadAt,Instr.sureAddr,loadVar,FL,JD]
theorem Bm{ti:TI}{t:Nat}(hT:uF P t ti){G1:Gh}{cs:List Ce}{vs:List Value}(h:bk G1 w ρ cs vs)(hl:vs.length=ti.sz):
  cK G1 w ρ (.v ti.ag cs) (if ti.ag then .agg vs.toArray else vs.getD 0 undef):=by
 cases hb:ti.ag with
 |true=>exact⟨vs,rfl,h⟩
 |false=>
  have h1:=hT.one hb
  cases vs with
  |nil=>simp at hl;omega
  |cons v vs=>cases vs with
   |cons _ _=>simp at hl;omega
   |nil=>cases cs with
    |nil=>exact h.elim
    |cons c cs=>cases cs with
     |cons _ _=>exact h.2.elim
     |nil=>exact⟨c,rfl,h.1,ahn h.1.one⟩
theorem S5{x ix:Lf}{xs:List (List T)}{i:Nat}(hx:x.fW ρ=some (.l xs))(hi:mf ρ ix=some i):vK (x.ev ρ) (ix.ev ρ)=xs[i]?:=by
 obtain⟨k,hk⟩:=yX hi
 rw[Lf.bW hx,hk,Bg]
theorem Wk.qu:∀(n:Nat) (k:Wk) (sc:Bool) (x ix:Lf) (wd off:Nat),k.fq (k.row sc x ix wd off n).1
 |0,k,_,_,_,_,_=>.refl k
 |n+1,k,sc,x,ix,wd,off=>by
  simp only[Wk.row]
  exact(Wk.bR k _ _).trans (Wk.qu n _ sc x ix wd (off+1))
theorem Wk.sR:∀(n:Nat) (k:Wk) (sc:Bool) (x ix:Lf) (wd off:Nat),(k.row sc x ix wd off n).1.bJ S ρ->k.bJ S ρ
 |0,_,_,_,_,_,_,h=>h
 |n+1,k,sc,x,ix,wd,off,h=>by
  simp only[Wk.row]at h
  exact(Wk.bX (Wk.sR n _ sc x ix wd (off+1) h)).1
theorem K3{x ix:Lf}{xs:List (List T)}{i wd off:Nat}{sc:Bool}{t:T}(hx:x.fW ρ=some (.l xs))(hi:mf ρ ix=some i)
  (h:Prim.ev (bif sc then .bq wd off else .cell wd off) [x.ev ρ,ix.ev ρ]=some t):
  ∃r,xs[i]?=some r∧r.length=wd∧r[off]?=some t∧(sc=true->eQ t=true):=by
 cases sc with
 |false=>
  simp only[cond_false,Prim.ev,S5 hx hi]at h
  cases hr:xs[i]? with
  |none=>simp[hr]at h
  |some r=>
   simp only[hr,Option.bind_some]at h
   split at h
   ·rename_i hl;exact⟨r,rfl,hl,h,λhf=>by cases hf⟩
   ·cases h
 |true=>
  simp only[cond_true,Prim.ev,S5 hx hi]at h
  cases hr:xs[i]? with
  |none=>simp[hr]at h
  |some r=>
   simp only[hr,Option.bind_some]at h
   split at h
   ·rename_i hl
    cases ho:r[off]? with
    |none=>simp[ho]at h
    |some t'=>
     simp only[ho,Option.bind_some]at h
     split at h
     ·rename_i hs;cases h;exact⟨r,rfl,hl,ho,λ_=>hs⟩
     ·cases h
   ·cases h
theorem Wk.xP{G1:Gh}{x ix:Lf}{xs:List (List T)}{i wd:Nat}{sc:Bool}(hx:x.fW ρ=some (.l xs))(hi:mf ρ ix=some i){b base:Nat}
  (gE:∀r,xs[i]?=some r->r.length=wd->∀j t,r[j]?=some t->(sc=true->eQ t=true)->∃u,w.cell? ⟨b,base+j,none⟩=some u∧fm G1.q w t u):
  ∀(n:Nat) (k:Wk) (off:Nat),(k.row sc x ix wd off n).1.bJ S ρ->
   ∃vs:List Value,vs.length=n∧(∀j v,vs[j]?=some v->w.cell? ⟨b,base+off+j,none⟩=some v)∧bk G1 w ρ (k.row sc x ix wd off n).2 vs∧dV (k.row sc x ix wd off n).2=[]
 |0,k,off,_=>⟨[],rfl,λj v hj=>by simp at hj,trivial,rfl⟩
 |n+1,k,off,hd=>by
  simp only[Wk.row]at hd⊢
  obtain⟨_,t,ht,hy⟩:=Wk.bX (Wk.sR n _ sc x ix wd (off+1) hd)
  obtain⟨r,h1,h2,h3,h4⟩:=K3 hx hi ht
  obtain⟨u,h5,h6⟩:=gE r h1 h2 off t h3 h4
  obtain⟨vs,g1,g2,g3,g4⟩:=Wk.xP hx hi gE n _ (off+1) hd
  refine⟨u::vs,by simp[g1],λj v hj=>?_,⟨⟨t,hy,h6⟩,g3⟩,by simp[dV,g4]⟩
  cases j with
  |zero=>simp at hj;subst hj;simpa using h5
  |succ j=>
   have:=g2 j v (by simpa using hj)
   rwa[show base+(off+1)+j=base+off+(j+1) by omega]at this
theorem S6{ix:Lf}{wd off i:Nat}(hi:mf ρ ix=some i):∀{q:np} {p:List (Nat×Nat)},gU ρ q=some p->gU ρ (q++[(ix,wd,off)])=some (p++[(i,off)])
 | [],p,h=>by simp only[gU]at h;cases h;simp[gU,hi]
 |(z1,z2,z3)::q,p,h=>by
  simp only[gU]at h
  cases nv:mf ρ z1 with
  |none=>simp[nv]at h
  |some i1=>
   cases oB:gU ρ q with
   |none=>simp[nv,oB]at h
   |some p2=>
    simp[nv,oB]at h
    subst h
    simp[gU,nv,S6 hi oB]
theorem fB.row{G1:Gh}{id:Nat}{dp:Bool}{p:List (Nat×Nat)}{xs:List (List T)}{b n cap i wd:Nat}{r:List T}(h:fB G1 w id dp p (.l xs))
  (hH:G1.H id p=.slice (some ⟨b,0,none⟩) n cap)(hr:xs[i]?=some r)(hl:r.length=wd)(j:Nat)(t:T)(ht:r[j]?=some t):
  ∃v,w.cell? ⟨b,i*wd+j,none⟩=some v∧(∀u,t=.c u->v=u∧kW u=true)∧(∀ys,t=.l ys->dp=false->fm G1.q w t v)∧(∀ys,t=.l ys->dp=true->v=G1.H id (p++[(i,j)])):=by
 cases h with
 |nil h=>simp at hr
 | @l _ _ _ b' FM za b9 elem cv g1 g2 g3 g4 g5 g6 g7 g8 g9 zb FN=>
  rw[hH]at g1
  cases g1
  have hw:FM=wd:=by rw[<-hl,g6 r (List.mem_of_getElem? hr)]
  subst hw
  have bI:d_ xs i j=some t:=by simp[d_,hr,ht]
  refine⟨cv i j,by rw[yY g4];exact g7 i j t bI,λu hu=>?_,λys hy hd=>?_,λys hy hd=>?_⟩
  ·subst hu;exact g8 i j u bI
  ·subst hy;exact g9 i j ys bI hd
  ·subst hy;exact zb i j ys bI hd
theorem zd{t:T}(h:eQ t=true):∃v,t=.c v:=by
 cases t with
 |c v=>exact⟨v,rfl⟩
 |l _=>simp[eQ]at h
theorem fm.row{ω:Nat->Option Lb}{xs:List (List T)}{b o n cap i wd:Nat}{r:List T}(h:fm ω w (.l xs) (.slice (some ⟨b,o,none⟩) n cap))
  (hr:xs[i]?=some r)(hl:r.length=wd):ω b=none∧b<w.heap.size∧∀(j:Nat) (t:T),r[j]?=some t->∃v,w.cell? ⟨b,o+i*wd+j,none⟩=some v∧fm ω w t v:=by
 generalize hv:Value.slice (some (⟨b,o,none⟩:Addr)) n cap=v at h
 cases h with
 |nil=>simp at hr
 | @l _ b' aho FM za cv h1 h2 h3 h4 h5 h6=>
  cases hv
  have hw:FM=wd:=by rw[<-hl,h1 r (List.mem_of_getElem? hr)]
  subst hw
  refine⟨h3,h4,λj t ht=>?_⟩
  have bI:d_ xs i j=some t:=by simp[d_,hr,ht]
  exact⟨cv i j,by rw[Nat.add_assoc];exact h5 i j t bI,h6 i j t bI⟩
theorem Wk.mh:∀(zs:List Ce) (k:Wk) (y ix:Lf) (id:Nat) (q:np) (wd off:Nat),k.fq (k.pO y ix id q wd off zs).1
 | [],k,_,_,_,_,_,_=>.refl k
 |z::zs,k,y,ix,id,q,wd,off=>by
  unfold Wk.pO
  cases fT z with
  |true=>exact(Wk.bR k _ _).trans (Wk.mh zs _ y ix id q wd (off+1))
  |false=>exact(Wk.bR k _ _).trans (Wk.mh zs _ y ix id q wd (off+1))
theorem Wk.lH:∀(zs:List Ce) (k:Wk) (y ix:Lf) (id:Nat) (q:np) (wd off:Nat),(k.pO y ix id q wd off zs).1.bJ S ρ->k.bJ S ρ
 | [],_,_,_,_,_,_,_,h=>h
 |z::zs,k,y,ix,id,q,wd,off,h=>by
  unfold Wk.pO at h
  cases hz:fT z with
  |true=>rw[hz]at h;exact(Wk.bX (Wk.lH zs _ y ix id q wd (off+1) h)).1
  |false=>rw[hz]at h;exact(Wk.bX (Wk.lH zs _ y ix id q wd (off+1) h)).1
theorem Wk.qv{G1:Gh}{y ix:Lf}{xs:List (List T)}{i wd id b base:Nat}{q:np}{p:List (Nat×Nat)}(hx:y.fW ρ=some (.l xs))(hi:mf ρ ix=some i)(hp:gU ρ q=some p)(Bn:id%2=1)
  (gE:∀r,xs[i]?=some r->r.length=wd->∀j t,r[j]?=some t->∃u,w.cell? ⟨b,base+j,none⟩=some u∧(∀v,t=.c v->u=v∧kW v=true)∧∀ys,t=.l ys->u=G1.H id (p++[(i,j)])):
  ∀(zs:List Ce) (k:Wk) (off:Nat),(k.pO y ix id q wd off zs).1.bJ S ρ->
   ∃vs:List Value,vs.length=zs.length∧(∀j v,vs[j]?=some v->w.cell? ⟨b,base+off+j,none⟩=some v)∧bk G1 w ρ (k.pO y ix id q wd off zs).2 vs∧∀j∈dV (k.pO y ix id q wd off zs).2,j=id
 | [],k,off,_=>⟨[],rfl,λj v hj=>by simp at hj,trivial,λj hj=>by simp[Wk.pO,dV]at hj⟩
 |z::zs,k,off,hd=>by
  unfold Wk.pO at hd⊢
  cases hz:fT z with
  |true=>
   rw[hz]at hd
   simp only[cond_true]at hd⊢
   obtain⟨_,t,ht,_⟩:=Wk.bX (Wk.lH zs _ _ _ _ _ _ (off+1) hd)
   obtain⟨ys,rfl,bI,r,h1,h2⟩:=FH hx hi ht
   have h3:r[off]?=some (.l ys):=by simpa[d_,h1]using bI
   obtain⟨u,h5,_,h6⟩:=gE r h1 h2 off _ h3
   obtain⟨vs,g1,g2,g3,g4⟩:=Wk.qv hx hi hp Bn gE zs _ (off+1) hd
   refine⟨u::vs,by simp[g1],λj v hj=>?_,⟨⟨_,agT (S6 hi hp) Bn,h6 ys rfl⟩,g3⟩,λj hj=>?_⟩
   ·cases j with
    |zero=>simp at hj;subst hj;simpa using h5
    |succ j=>
     have:=g2 j v (by simpa using hj)
     rwa[show base+(off+1)+j=base+off+(j+1) by omega]at this
   ·simp only[dV,List.mem_cons]at hj
    rcases hj with hj|hj
    ·exact hj
    ·exact g4 j hj
  |false=>
   rw[hz]at hd
   simp only[cond_false]at hd⊢
   obtain⟨_,t,ht,hy⟩:=Wk.bX (Wk.lH zs _ _ _ _ _ _ (off+1) hd)
   obtain⟨r,h1,h2,h3,h4⟩:=K3 (sc:=true) hx hi ht
   obtain⟨c,rfl⟩:=zd (h4 rfl)
   obtain⟨u,h5,h6,_⟩:=gE r h1 h2 off _ h3
   obtain⟨rfl,hs⟩:=h6 c rfl
   obtain⟨vs,g1,g2,g3,g4⟩:=Wk.qv hx hi hp Bn gE zs _ (off+1) hd
   refine⟨u::vs,by simp[g1],λj v hj=>?_,⟨⟨.c u,hy,.c hs⟩,g3⟩,λj hj=>g4 j (by simpa[dV]using hj)⟩
   cases j with
   |zero=>simp at hj;subst hj;simpa using h5
   |succ j=>
    have:=g2 j v (by simpa using hj)
    rwa[show base+(off+1)+j=base+off+(j+1) by omega]at this
theorem ahp(ek:eL P cx)(h:Rel M B d up s ρ G a w)(hn:∀n,o.dst=some n->n<a.tmps.size){x:Operand}{t:Nat}(ho:o.op=.load t x)
  (hk:∃k1 v,loadAt cx (cx.nest cJ) ⟨s.only R,[],ct,[]⟩ t (cn d (Wk.get ⟨s.only R,[],ct,[]⟩) x)=some (k1,v)∧ca d o k1 v=k')(hd:k'.bJ S ρ):bV P M B d up ρ a w s o k'.w Q∧k'.ct.i=ct.i:=by
 have hw:=dD.start h R ct
 obtain⟨hr,hm⟩:=hw.iV x
 obtain⟨k1,v,hv,hk⟩:=hk
 have c_:ca d o k1 v=k':=hk
 subst c_
 have fR:=cX.1 hd
 have exe:∀{val:Value} {b off:Nat},a.eval x=.pointer (some ⟨b,off,none⟩)->(Instr.loadAt t (.pointer (some ⟨b,off,none⟩))).run P w=.ok val w->(execOp a.eval o).run P w=.ok (.value val) w:=by
  intro val b off he hl
  refine Ey (x:=Instr.loadAt t (a.eval x)) (by unfold execOp;rw[ho]) ?_
  rw[he];exact hl
 have r_:∀{k0:Wk} {G1:Gh} {ti:TI} {y ix:Lf} {xs:List (List T)} {i wd off b base:Nat} {sc:Bool},cx.ty t=some ti->dD M B d up ρ G a w k0 G1->k0.ct.i=ct.i->
   y.fW ρ=some (.l xs)->mf ρ ix=some i->a.eval x=.pointer (some ⟨b,base+off,none⟩)->
   (∀r,xs[i]?=some r->r.length=wd->∀j t,r[j]?=some t->(sc=true->eQ t=true)->∃u,w.cell? ⟨b,base+j,none⟩=some u∧fm G1.q w t u)->
   (k0.row sc y ix wd off ti.sz).1=k1->SV.v ti.ag (k0.row sc y ix wd off ti.sz).2=v->bV P M B d up ρ a w s o (ca d o k1 v).w Q∧(ca d o k1 v).ct.i=ct.i:=by
  intro k0 G1 ti y ix xs i wd off b base sc f_ vQ kY hy hi he gE h1 h2
  subst h1 h2
  obtain⟨vs,g1,g2,g3,g4⟩:=Wk.xP (S:=S) hy hi gE ti.sz k0 off fR
  have hT:=ek.ty _ _ f_
  refine⟨sP h (vQ.same (Wk.qu _ _ _ _ _ _ _)) hn (exe he (Bl hT g1 g2)) (Bm hT g3 g1) (λj hj=>by simp[dA,g4]at hj) Q,?_⟩
  rw[nu,(Wk.qu ti.sz k0 sc y ix wd off).i,kY]
 unfold loadAt at hv
 split at hv
 ·rename_i bx off eo
  rw[eo]at hr hm
  simp only[cN]at hv
  obtain⟨ti,f_,hv⟩:=hv
  split at hv
  ·rename_i ag cs vR
   cases hle:Nat.ble (off+ti.sz) cs.length with
   |false=>simp[hle]at hv
   |true=>
    simp only[hle,cond_true,bG,Prod.mk.injEq]at hv
    obtain⟨rfl,rfl⟩:=hv
    have hb:=hw.rel.bx bx
    rw[<-Wk.a_,vR]at hb
    obtain⟨_,b9,elem,hh,kZ⟩:=hb
    have hT:=ek.ty _ _ f_
    have ahq:=(kZ.drop off).take ti.sz
    have hlen:((b9.toList.drop off).take ti.sz).length=ti.sz:=by
     have:=kZ.length
     have:=Nat.le_of_ble_eq_true hle
     simp only[List.length_take,List.length_drop]
     omega
    refine⟨sP h hw hn (exe hr (Bl hT hlen λj v hj=>?_)) (Bm hT ahq hlen) (λj hj=>?_) Q,by rw[nu]⟩
    ·rw[yY hh]
     rw[List.getElem?_take]at hj
     split at hj
     ·rw[List.getElem?_drop]at hj;simpa using hj
     ·cases hj
    ·have ze:=KZ cs off j (K1 _ _ j hj)
     refine hw.rel.gm (.x bx) j ?_
     rw[<-Wk.a_,vR];exact ze
  ·cases hv
 ·rename_i s' ix wd off eo
  rw[eo]at hr
  simp only[cN,bG,Prod.mk.injEq]at hv
  obtain⟨ti,f_,h1,h2⟩:=hv
  obtain⟨xs,i,r,b,base,e1,e2,e3,e4,e5⟩:=hr
  refine r_ f_ hw rfl e1 e2 e4 (λr' iM hl j t' ht _=>?_) h1 h2
  rw[e3]at iM
  cases iM
  exact(e5 hl).2.2 j t' ht
 ·rename_i id q ix wd off eo
  rw[eo]at hr
  simp only[cN]at hv
  obtain⟨ti,f_,hv⟩:=hv
  obtain⟨p,b,n,cap,i,e1,e2,e3,e4,e5⟩:=hr
  have eH:=hw.obj id
  split at hv
  ·rename_i y hy
   rw[hy]at eH
   obtain⟨tt,ht,bU⟩:=eH
   have qw:∃ys,tt=.l ys:=by cases bU<;>exact⟨_,rfl⟩
   cases sa:(cx.nest cJ&&ti.zero.any fT&&Nat.beq ti.zero.length ti.sz&&Nat.beq (id%2) 1)with
   |true=>
    simp only[sa,cond_true,bG,Prod.mk.injEq]at hv
    obtain⟨h1,h2⟩:=hv
    subst h1 h2
    have Bn:id%2=1:=by
     simp only[bD]at sa
     exact ef sa.2
    have rJ:ti.zero.length=ti.sz:=by
     simp only[bD]at sa
     exact ef sa.1.2
    have S7:=Wk.lH _ _ _ _ _ _ _ _ fR
    obtain⟨z,hz,Av,ahr⟩:=Wk.jg q _ y S7 ht (uC e1) (.inr qw)
    have Bo:∃ys,z=.l ys:=by
     rcases ahr with rfl|h'
     ·simp only[mD]at e1;cases e1;simp[iU]at hz;subst hz;exact qw
     ·exact h'
    obtain⟨zs,rfl⟩:=Bo
    have lI:=fB.dE p bU hz ⟨zs,rfl⟩
    simp only[List.nil_append]at lI
    obtain⟨vs,g1,g2,g3,g4⟩:=Wk.qv (S:=S) (b:=b) (base:=i*wd) (wd:=wd) Av e3 (uC e1) Bn (λr iM hl j t' jV=>by
     obtain⟨v',hc,ha,_,hb⟩:=lI.row e2 iM hl j t' jV
     exact⟨v',hc,ha,λys hy=>hb ys hy rfl⟩) ti.zero _ off fR
    have hT:=ek.ty _ _ f_
    refine⟨sP h ((hw.same (Wk.fL q _ y)).same (Wk.mh _ _ _ _ _ _ _ _)) hn (exe e5 (Bl hT (by rw[g1,rJ]) g2)) (Bm hT g3 (by rw[g1,rJ])) (λj hj=>?_) Q,?_⟩
    ·have:=g4 j (by simpa[dA]using hj)
     subst this
     rw[eo]at hm
     exact hm j (by simp[dA])
    ·rw[nu,(Wk.mh _ _ _ _ _ _ _ _).i,(Wk.fL q _ y).i]
   |false=>
    simp only[sa,cond_false]at hv
    cases hz:ti.zero.any fT with
    |true=>
     simp only[hz,cond_true]at hv
     split at hv
     ·cases jy:Nat.beq (id%2) 0 with
      |true=>
       simp only[jy,cond_true,bG,Prod.mk.injEq]at hv
       obtain⟨h1,h2⟩:=hv
       have ahs:=ef jy
       simp only[mD]at e1
       cases e1
       obtain⟨ys,rfl⟩:=qw
       refine r_ f_ hw rfl ht e3 e5 (λr iM hl j t' jV _=>?_) h1 h2
       obtain⟨v',hc,ha,_,hb⟩:=bU.row e2 iM hl j t' jV
       refine⟨v',hc,?_⟩
       cases t' with
       |c u=>obtain⟨rfl,hs⟩:=ha u rfl;exact .c hs
       |l zs=>
        rw[hb zs rfl rfl]
        have bI:d_ ys i j=some (.l zs):=by simp[d_,iM,jV]
        have lI:=fB.dE [(i,j)] bU (by simp[iU,bI]) ⟨zs,rfl⟩
        exact lI.SU (.inr ⟨ahs,by simp⟩) rfl
      |false=>
      simp only[jy,cond_false]at hv
      simp only[cN,bG,Prod.mk.injEq]at hv
      obtain⟨k2,c_,h1,h2⟩:=hv
      obtain⟨G2,xQ,FE,hH,rK,pV,his⟩:=hw.flat c_
      simp only[mD]at e1
      cases e1
      have S8:=xQ.obj id
      have S9:k2.get (.o id)=.ob false y:=by
       unfold Wk.flat at c_
       rw[hy]at c_
       cases c_
       simp[Wk.get,Wk.set,St.bz]
      rw[S9]at S8
      obtain⟨tt2,Bp,qy⟩:=S8
      obtain⟨ys,rfl⟩:∃ys,tt2=.l ys:=by cases qy<;>exact⟨_,rfl⟩
      refine r_ f_ xQ (by rw[pV]) Bp e3 e5 (λr iM hl j t' jV _=>?_) h1 h2
      obtain⟨v',hc,ha,hb,_⟩:=qy.row (by rw[hH];exact e2) iM hl j t' jV
      refine⟨v',hc,?_⟩
      cases t' with
      |c u=>obtain⟨rfl,hs⟩:=ha u rfl;exact .c hs
      |l zs=>exact hb zs rfl rfl
     ·cases hv
    |false=>
     simp only[hz,cond_false,bG,Prod.mk.injEq]at hv
     obtain⟨h1,h2⟩:=hv
     subst h1 h2
     have S7:=Wk.sR _ _ _ _ _ _ _ fR
     obtain⟨z,tU,Av,rJ⟩:=Wk.jg q _ y S7 ht (uC e1) (.inr qw)
     have Bo:∃ys,z=.l ys:=by
      rcases rJ with rfl|h'
      ·simp only[mD]at e1;cases e1;simp[iU]at tU;subst tU;exact qw
      ·exact h'
     obtain⟨zs,rfl⟩:=Bo
     have lI:=fB.dE p bU tU ⟨zs,rfl⟩
     simp only[List.nil_append]at lI
     refine r_ f_ (hw.same (Wk.fL q _ y)) (by rw[(Wk.fL q _ y).i]) Av e3 e5 (λr iM hl j t' jV mF=>?_) rfl rfl
     obtain⟨v',hc,ha,_,_⟩:=lI.row e2 iM hl j t' jV
     obtain⟨u,rfl⟩:=zd (mF rfl)
     obtain⟨rfl,hs⟩:=ha u rfl
     exact⟨_,hc,.c hs⟩
  ·rename_i y hy
   rw[hy]at eH
   split at hv
   ·simp only[bG,Prod.mk.injEq]at hv
    obtain⟨h1,h2⟩:=hv
    obtain⟨tt,ht,bU⟩:=eH
    obtain⟨ys,rfl⟩:∃ys,tt=.l ys:=by cases bU<;>exact⟨_,rfl⟩
    simp only[mD]at e1
    cases e1
    refine r_ f_ hw rfl ht e3 e5 (λr iM hl j t' jV _=>?_) h1 h2
    obtain⟨v',hc,ha,hb,_⟩:=bU.row e2 iM hl j t' jV
    refine⟨v',hc,?_⟩
    cases t' with
    |c u=>obtain⟨rfl,hs⟩:=ha u rfl;exact .c hs
    |l zs=>exact hb zs rfl rfl
   ·cases hv
  ·rename_i y hy
   rw[hy]at eH
   split at hv
   ·simp only[bG,Prod.mk.injEq]at hv
    obtain⟨h1,h2⟩:=hv
    obtain⟨tt,ht,ez,_⟩:=eH
    simp only[mD]at e1
    cases e1
    rw[e2]at ez
    obtain⟨ys,rfl⟩:∃ys,tt=.l ys:=by
     cases tt with
     |c v=>have:=ez.scalar;cases this.1▸this.2
     |l ys=>exact⟨ys,rfl⟩
    refine r_ (b:=b) (base:=i*wd) f_ hw rfl ht e3 e5 (λr iM hl j t' jV _=>?_) h1 h2
    obtain⟨v',hc,pA⟩:=(ez.row iM hl).2.2 j t' jV
    exact⟨v',by simpa using hc,pA⟩
   ·cases hv
  ·cases hv
 ·cases hv
theorem aht{x i:T}{r:T}(h:Prim.ev .dC [x,i]=some r):∃xs kk n,x=.l xs∧i=.c (.int kk n)∧0<=n∧∃row,xs[n.toNat]?=some row:=by
 simp only[Prim.ev,vK,cN]at h
 obtain⟨row,⟨xs,hx,n,hn,hr⟩,_⟩:=h
 cases x with
 |c v=>simp[T.rows]at hx
 |l ys=>
  simp only[T.rows,bG]at hx
  subst hx
  cases i with
  |l _=>simp[T.int]at hn
  |c v=>
   cases v with
   |int kk m=>
    simp only[T.int,bG]at hn
    subst hn
    split at hr
    ·rename_i h0;exact⟨ys,kk,m,rfl,rfl,h0,row,hr⟩
    ·cases hr
   |_=>simp[T.int]at hn
theorem S_{x:Lf}{kk:IntKind}{n:Int}(h:x.fW ρ=some (.c (.int kk n)))(h0:0<=n):mf ρ x=some n.toNat:=by
 simp[mf,h,h0]
theorem ahu{t:Nat}{ti te:TI}(hT:uF P t ti)(hE:uF P ti.el te)(hk:ti.kd=3){b off len cap:Nat}{kk:IntKind}{n:Int}(h0:0<=n)(hn:n<len):
  (Instr.indexAt t (.slice (some ⟨b,off,none⟩) len cap) (.int kk n)).run P w=.ok (.pointer (some ⟨b,off+n.toNat*te.sz,none⟩)) w:=by
 have hu:=hT.sl hk
 obtain⟨i,z,hi,hs,_,_,_⟩:=hE.info
 simp[Instr.indexAt,asIntOf,run_underlying hu,h0,hn,sizeOf,typeInfo,hi,hs,Addr.add_lit]
theorem K4{lo:Lf}{n:Nat}(h:JA lo=true)(h2:mf ρ lo=some n):n=0:=by
 unfold JA at h
 split at h
 ·rename_i k m
  have hm:m=0:=of_decide_eq_true h
  subst hm
  simp[mf,Lf.fW,kW]at h2
  exact h2.symm
 ·cases h
theorem ahv(ek:eL P cx)(h:Rel M B d up s ρ G a w)(hn:∀n,o.dst=some n->n<a.tmps.size){x y:Operand}{t:Nat}(ho:o.op=.indexAddr t x y)
  (hk:jf cx cJ fA d o oi ⟨s.only R,[],ct,[]⟩=some k')(hd:k'.bJ S ρ):bV P M B d up ρ a w s o k'.w Q∧k'.ct.i=ct.i:=by
 have hw:=dD.start h R ct
 obtain⟨hr,hm⟩:=hw.iV x
 have KW:=(hw.iV y).1
 simp only[jf,ho,indexAt,cN,bG]at hk
 obtain⟨⟨k1,v⟩,⟨ti,f_,te,qs,hv⟩,hk⟩:=hk
 have c_:ca d o k1 v=k':=hk
 subst c_
 have fR:=cX.1 hd
 have hT:=ek.ty _ _ f_
 have hE:=ek.ty _ _ qs
 cases jz:Nat.beq ti.kd 3 with
 |false=>simp[jz]at hv
 |true=>
  have pT:=ef jz
  simp only[jz,cond_true,cN]at hv
  obtain⟨⟨k2,ix⟩,h1,hv⟩:=hv
  have exe:∀{b off len cap:Nat} {kk:IntKind} {n:Int},a.eval x=.slice (some ⟨b,off,none⟩) len cap->a.eval y=.int kk n->0<=n->n<len->
    (execOp a.eval o).run P w=.ok (.value (.pointer (some ⟨b,off+n.toNat*te.sz,none⟩))) w:=by
   intro b off len cap kk n e1 e2 h0 bf
   refine Ey (x:=Instr.indexAt t (a.eval x) (a.eval y)) (by unfold execOp;rw[ho]) ?_
   rw[e1,e2];exact ahu hT hE pT h0 bf
  have nv:Wk.fq ⟨s.only R,[],ct,[]⟩ k2:=by
   unfold Wk.one at h1;split at h1
   ·exact Wk.eh h1
   ·cases h1
  have ixv:∀{k3:Wk} {z:Lf},(k3.em .dC [z,ix]).1.bJ S ρ->(k3.bJ S ρ->k2.bJ S ρ)->∃xs kk n row,k3.bJ S ρ∧z.ev ρ=.l xs∧a.eval y=.int kk n∧0<=n∧xs[n.toNat]?=some row∧mf ρ ix=some n.toNat:=by
   intro k3 z Aw K5
   obtain⟨JE,r,sS,_⟩:=Wk.bX Aw
   obtain⟨_,_,t1,S',mE⟩:=Wk.iu hw h1 (K5 JE) KW
   simp only[List.map_cons,List.map_nil,Lf.bW S']at sS
   obtain⟨xs,kk,n,hx,hi,h0,row,gE⟩:=aht sS
   subst hi
   obtain⟨e,_⟩:=mE.scalar
   exact⟨xs,kk,n,row,JE,hx,e,h0,gE,S_ S' h0⟩
  have Bq:∀{xs:List (List T)} {n:Int} {row:List T},0<=n->xs[n.toNat]?=some row->n<xs.length:=by
   intro xs n row h0 gE
   have:=(List.getElem?_eq_some_iff.1 gE).1
   omega
  have plain:∀{z:Lf} {tt:T} {val:Value} {k3:Wk} ,k3=k2->z.fW ρ=some tt->fm G.q w tt val->a.eval x=val->k1=(k3.em .dC [z,ix]).1->v=.fp z ix te.sz 0->
    bV P M B d up ρ a w s o (ca d o k1 v).w Q∧(ca d o k1 v).ct.i=ct.i:=by
   intro z tt val k3 jz hz ez iv e1 e2
   subst jz e1 e2
   obtain⟨xs,kk,n,row,_,hx,he,h0,gE,cf⟩:=ixv fR id
   rw[Lf.bW hz]at hx
   subst hx
   have bf:=Bq h0 gE
   obtain⟨ad,cap,tV,_⟩:=ez.rows
   subst tV
   cases ez with
   |nil=>simp at bf;omega
   | @l _ b off FM za cv g1 g2 g3 g4 g5 g6=>
    refine⟨sP h ((hw.same nv).same (Wk.bR _ _ _)) hn (x:=.fp z ix te.sz 0) (exe iv he h0 bf) ?_ (λi hi=>by simp[dA]at hi) Q,?_⟩
    ·refine⟨xs,n.toNat,row,b,off+n.toNat*te.sz,hz,cf,gE,rfl,λhl=>?_⟩
     exact(fm.l g1 g2 g3 g4 g5 g6).row gE hl
    ·rw[nu,(Wk.bR _ _ _).i,nv.i]
  have owned:∀{id:Nat} {q:np} {p:List (Nat×Nat)} {z:Lf} {zs:List (List T)} {dp:Bool} {k3:Wk},k2.fq k3->(k3.bJ S ρ->k2.bJ S ρ)->lE ρ id q=some p->
    z.fW ρ=some (.l zs)->fB G w id dp p (.l zs)->a.eval x=G.H id p->M id->k1=(k3.em .dC [z,ix]).1->v=.ep id q ix te.sz 0->
    bV P M B d up ρ a w s o (ca d o k1 v).w Q∧(ca d o k1 v).ct.i=ct.i:=by
   intro id q p z zs dp k3 hsm K5 hp hz bU iv hM e1 e2
   subst e1 e2
   obtain⟨xs,kk,n,row,_,hx,he,h0,gE,cf⟩:=ixv fR K5
   rw[Lf.bW hz]at hx
   cases hx
   have bf:=Bq h0 gE
   cases bU with
   |nil hH=>simp at bf;omega
   | @l _ _ _ b FM za b9 elem cv g1 g2 g3 g4 g5 g6 g7 g8 g9 zb FN=>
    refine⟨sP h ((((hw.same nv).same hsm)).same (Wk.bR _ _ _)) hn (x:=.ep id q ix te.sz 0) (exe (by rw[iv,g1]) he h0 bf) ?_ (λi hi=>by simp[dA]at hi;rw[hi];exact hM) Q,?_⟩
    ·exact⟨p,b,_,_,n.toNat,hp,g1,cf,by omega,by simp⟩
    ·rw[nu,(Wk.bR _ _ _).i,hsm.i,nv.i]
  split at hv
  ·rename_i z eo
   rw[eo]at hr
   obtain⟨e,he,ru,_⟩:=hr
   cases he
   obtain⟨tt,hz,ez⟩:=ru
   simp only[bG,Prod.mk.injEq]at hv
   exact plain rfl hz ez rfl hv.1.symm hv.2.symm
  ·rename_i id q eo
   rw[eo]at hr hm
   obtain⟨e,he,ru,_⟩:=hr
   cases he
   obtain⟨p,hp,iv⟩:=ru
   have hM:M id:=hm id (by simp[dA,dV])
   have eH:=(hw.same nv).obj id
   split at hv
   ·rename_i q' z hz
    rw[hz]at eH
    obtain⟨tt,ht,bU⟩:=eH
    have qw:∃ys,tt=.l ys:=by cases bU<;>exact⟨_,rfl⟩
    simp only[bG,Prod.mk.injEq]at hv
    obtain⟨e1,e2⟩:=hv
    subst e1
    have S7:=(Wk.bX fR).1
    obtain⟨u,hu,Av,rJ⟩:=Wk.jg _ _ z S7 ht (uC hp) (.inr qw)
    have Bo:∃ys,u=.l ys:=by
     rcases rJ with hq0|h'
     ·have hp:=uC hp;rw[hq0]at hp;simp only[gU]at hp;cases hp;simp[iU]at hu;subst hu;exact qw
     ·exact h'
    obtain⟨zs,rfl⟩:=Bo
    have lI:=fB.dE p bU hu ⟨zs,rfl⟩
    simp only[List.nil_append]at lI
    exact owned (Wk.fL _ _ z) (Wk.lF _ _ _) hp Av lI iv hM rfl e2.symm
   ·rename_i z hz
    rw[hz]at eH
    obtain⟨tt,ht,bU⟩:=eH
    obtain⟨ys,rfl⟩:∃ys,tt=.l ys:=by cases bU<;>exact⟨_,rfl⟩
    simp only[bG,Prod.mk.injEq]at hv
    simp only[mD]at hp
    cases hp
    exact owned (.refl _) (λh=>h) rfl ht bU iv hM hv.1.symm hv.2.symm
   ·rename_i tk x0 lo z hz
    rw[hz]at eH
    obtain⟨tt,ht,ez,_,F,n0,zs,_,nF,rfl,_,uG,hz0⟩:=eH
    simp only[mD]at hp
    cases hp
    cases rJ:JA lo with
    |false=>
     simp only[rJ,cond_false,bG,Prod.mk.injEq]at hv
     exact plain rfl ht ez iv hv.1.symm hv.2.symm
    |true=>
     simp only[rJ,cond_true,bG,Prod.mk.injEq]at hv
     have Br:n0=0:=K4 rJ nF
     obtain⟨e1,e2⟩:=hv
     subst e1 e2
     obtain⟨xs,kk,n,row,_,hx,he,h0,gE,cf⟩:=ixv fR (λh=>h)
     rw[Lf.bW ht]at hx
     cases hx
     have bf:=Bq h0 gE
     obtain⟨ad,cap,tV,_⟩:=ez.rows
     rw[tV]at ez
     generalize tT:Value.slice ad zs.length cap=vv at ez
     cases ez with
     |nil=>simp at bf;omega
     | @l _ b off FM za cv g1 g2 g3 g4 g5 g6=>
      cases tT
      have Bs:=hz0 Br b off _ _ tV
      subst Bs
      refine⟨sP h ((hw.same nv).same (Wk.bR _ _ _)) hn (x:=.ep id [] ix te.sz 0) (exe (by rw[iv,tV]) he h0 bf) ?_ (λi hi=>by simp[dA]at hi;rw[hi];exact hM) Q,?_⟩
      ·exact⟨[],b,_,_,n.toNat,rfl,tV,cf,by omega,by simp⟩
      ·rw[nu,(Wk.bR _ _ _).i,nv.i]
   ·rename_i pv z _ hz
    rw[hz]at eH
    obtain⟨tt,ht,ez,_⟩:=eH
    simp only[bG,Prod.mk.injEq]at hv
    simp only[mD]at hp
    cases hp
    exact plain rfl ht ez iv hv.1.symm hv.2.symm
   ·cases hv
  ·cases hv
theorem bk.append:∀{cs es:List Ce} {vs us:List Value},bk G w ρ cs vs->bk G w ρ es us->bk G w ρ (cs++es) (vs++us)
 | [],_,[],_,_,h=>h
 | [],_,_::_,_,h,_=>h.elim
 |_::_,_,[],_,h,_=>h.elim
 |_::cs,_,_::vs,_,h,h'=>⟨h.1,bk.append h.2 h'⟩
theorem bk.gI{cs es:List Ce}{vs us:List Value}(off:Nat)(h:bk G w ρ cs vs)(h':bk G w ρ es us):
  bk G w ρ (gI cs off es) (vs.take off++us++vs.drop (off+us.length)):=by
 unfold Go.Proofs.YtjimmglpkndemaaGreatC.gI
 rw[<-h'.length]
 exact((h.take off).append h').append (h.drop _)
theorem K6(cs es:List Ce):dV (cs++es)=dV cs++dV es:=by
 induction cs with
 |nil=>rfl
 |cons c cs ih=>rw[List.cons_append,yW,yW c cs,ih,List.append_assoc]
theorem Ta(cs es:List Ce)(off:Nat):∀i∈dV (gI cs off es),i∈dV cs∨i∈dV es:=by
 intro i hi
 unfold gI at hi
 rw[K6,K6]at hi
 simp only[List.mem_append]at hi
 rcases hi with(hi|hi)|hi
 ·exact .inl (K1 _ _ i hi)
 ·exact .inr hi
 ·exact .inl (KZ _ _ i hi)
def zf:List Value->Nat->Array Value->Array Value
 | [],_,c=>c
 |v::vs,off,c=>zf vs (off+1) (c.setIfInBounds off v)
theorem Tb(off:Nat):∀(vs:List Value) (j:Nat) (c:Array Value),
  (vs.zipIdx j).foldl (λcs p=>cs.setIfInBounds (off+p.2) p.1) c=zf vs (off+j) c
 | [],_,_=>rfl
 |v::vs,j,c=>by
  simp only[List.zipIdx_cons,List.foldl_cons,zf]
  rw[Tb off vs (j+1),Nat.add_assoc]
theorem Rr:∀(vs:List Value) (off:Nat) (c:Array Value),(zf vs off c).size=c.size
 | [],_,_=>rfl
 |v::vs,off,c=>by simp[zf,Rr vs]
theorem Rs:∀(vs:List Value) (off:Nat) (c:Array Value) (i:Nat),off+vs.length<=c.size->
  (zf vs off c)[i]?=if off<=i∧i<off+vs.length then vs[i-off]? else c[i]?
 | [],off,c,i,_=>by
  simp only[zf,List.length_nil]
  rw[if_neg (by omega)]
 |v::vs,off,c,i,h=>by
  simp only[List.length_cons]at h
  simp only[zf]
  rw[Rs vs (off+1) _ i (by simp;omega)]
  by_cases h1:i=off
  ·subst h1
   rw[if_neg (by omega),if_pos (by simp)]
   simp[show i<c.size by omega]
  ·by_cases h2:off+1<=i∧i<off+1+vs.length
   ·rw[if_pos h2,if_pos (by simp;omega)]
    rw[show i-off=(i-(off+1))+1 by omega]
    simp
   ·rw[if_neg h2,if_neg (by simp;omega)]
    rw[Array.getElem?_setIfInBounds_ne (by omega)]
theorem ku_(vs:List Value)(off:Nat)(c:Array Value)(h:off+vs.length<=c.size):
  (zf vs off c).toList=c.toList.take off++vs++c.toList.drop (off+vs.length):=by
 apply List.ext_getElem?
 intro i
 rw[Array.getElem?_toList,Rs vs off c i h]
 have hl:(c.toList.take off).length=off:=by simp;omega
 by_cases h1:i<off
 ·rw[if_neg (by omega),List.append_assoc,List.getElem?_append_left (by omega),List.getElem?_take,if_pos h1,Array.getElem?_toList]
 ·rw[List.append_assoc,List.getElem?_append_right (by omega),hl]
  by_cases h2:i<off+vs.length
  ·rw[if_pos ⟨by omega,h2⟩,List.getElem?_append_left (by omega)]
  ·rw[if_neg (by omega),List.getElem?_append_right (by omega),List.getElem?_drop,Array.getElem?_toList]
   congr 1
   omega
theorem Tc{ag:Bool}{cs:List Ce}{v:Value}(h:fC G w ρ ag cs v):bk G w ρ cs v.cells.toList:=by
 cases ag with
 |true=>obtain⟨vs,rfl,h⟩:=h;exact h
 |false=>
  obtain⟨e,rfl,h,hn⟩:=h
  have:v.cells=#[v]:=by
   cases v<;>first|rfl|exact absurd rfl (hn _)
  rw[this]
  exact⟨h,trivial⟩
theorem K7:∀{cs:List Ce} {vs:List Value},Bi cs vs->bk G w ρ cs vs∧dV cs=[]
 | [],[],_=>⟨trivial,rfl⟩
 | [],_::_,h=>h.elim
 | .p (.k v)::cs,v'::vs,h=>by
  obtain⟨rfl,hs,h⟩:=h
  obtain⟨h1,h2⟩:=K7 h
  exact⟨⟨⟨.c v,by simp[Lf.fW,hs],.c hs⟩,h1⟩,by simp[dV,h2]⟩
 | .n::cs,v::vs,h=>by
  obtain⟨rfl,h⟩:=h
  obtain⟨h1,h2⟩:=K7 h
  exact⟨⟨rfl,h1⟩,by simp[dV,h2]⟩
 | .p (.k _)::_,[],h=>h.elim
 | .n::_,[],h=>h.elim
 | .p (.a _)::_,[],h=>h.elim
 | .p (.a _)::_,_::_,h=>h.elim
 | .p .e::_,[],h=>h.elim
 | .p .e::_,_::_,h=>h.elim
 | .o _ _::_,[],h=>h.elim
 | .o _ _::_,_::_,h=>h.elim
 | .d::_,[],h=>h.elim
 | .d::_,_::_,h=>h.elim
theorem K8{G1:Gh}{k:Wk}(hw:dD M B d up ρ G a w k G1){fs:List (Nat×Nat)}{place:Nat->Option (Nat×Nat)}(FO:∀f o,fs[f]?=some o->place f=some o):
  ∀(ps:List (Nat×Operand)) (l:List (Nat×List Ce)) (zs cs:List Ce) (b9:Array Value),parts d k.get fs ps=some l->yM zs l=some cs->bk G1 w ρ zs b9.toList->
   (∀i∈dV zs,M i)->∃lk,Instr.fill place b9 (ps.map λp=>(p.1,a.eval p.2))=some lk∧bk G1 w ρ cs lk.toList∧(∀i∈dV cs,M i)∧lk.size=b9.size
 | [],l,zs,cs,b9,hp,hc,hz,hi=>by
  simp only[parts,bG]at hp
  subst hp
  simp only[yM,bG]at hc
  subst hc
  exact⟨b9,rfl,hz,hi,rfl⟩
 |(f,x)::ps,l,zs,cs,b9,hp,hc,hz,hi=>by
  simp only[parts,cN]at hp
  obtain⟨of,hf,es,tW,hp⟩:=hp
  cases hle:Nat.beq es.length of.2 with
  |false=>simp[hle]at hp
  |true=>
   simp only[hle,cond_true,cN,bG]at hp
   obtain⟨l',kX,rfl⟩:=hp
   simp only[yM]at hc
   cases hb:Nat.ble (of.1+es.length) zs.length with
   |false=>simp[hb]at hc
   |true=>
    simp only[hb,cond_true]at hc
    obtain⟨hr,hm⟩:=hw.iV x
    unfold cellsOf at tW
    split at tW
    ·rename_i ag es' eo
     cases tW
     rw[eo]at hr hm
     have kZ:=Tc hr
     have hlen:=kZ.length
     have rJ:=hz.length
     have h1:=ef hle
     have h2:=Nat.le_of_ble_eq_true hb
     simp only[Array.length_toList]at hlen rJ
     have lJ:of.1+(a.eval x).cells.toList.length<=b9.size:=by simp only[Array.length_toList];omega
     have zg:(((a.eval x).cells.zipIdx.foldl (λcs (c,j)=>cs.setIfInBounds (of.1+j) c) b9))=zf (a.eval x).cells.toList of.1 b9:=by
      rw[<-Array.foldl_toList,Array.toList_zipIdx]
      exact Tb of.1 _ 0 b9
     have tU:=bk.gI of.1 hz kZ
     rw[<-ku_ _ _ _ lJ]at tU
     obtain⟨lk,g1,g2,g3,g4⟩:=K8 hw FO ps l' _ cs (zf (a.eval x).cells.toList of.1 b9) kX hc tU λi eg=>by
      rcases Ta _ _ _ i eg with h|h
      ·exact hi i h
      ·exact hm i h
     refine⟨lk,?_,g2,g3,by rw[g4,Rr]⟩
     simp only[List.map_cons,Instr.fill,FO f of hf]
     rw[if_neg]
     ·rw[zg];exact g1
     ·simp only[Array.length_toList]at lJ
      simp only[Bool.or_eq_true,decide_eq_true_eq]
      omega
    ·cases tW
theorem Td:∀(l:List Field),(∀f∈l,∃i,P.info? f.type=some i)->
  (l.mapM λf=>(do pure (f.offset,<-sizeOf f.type):Sem (Nat×Nat))).run P w=.ok (l.map λf=>(f.offset,((P.info? f.type).map (·.size)).getD 0)) w
 | [],_=>rfl
 |f::l,h=>by
  obtain⟨i,hi⟩:=h f (by simp)
  have ih:=Td l λg hg=>h g (by simp[hg])
  have h1:(do pure (f.offset,<-sizeOf f.type):Sem (Nat×Nat)).run P w=.ok (f.offset,i.size) w:=by
   simp[sizeOf,typeInfo,hi]
  rw[List.mapM_cons,Sem.run_bind,h1]
  simp only[Result.andThen_ok,Sem.run_bind,ih,Sem.run_pure,List.map_cons,hi,Option.map_some,Option.getD_some]
theorem ahy(ek:eL P cx)(h:Rel M B d up s ρ G a w)(hn:∀n,o.dst=some n->n<a.tmps.size){t:Nat}{ps:Array (Nat×Operand)}(ho:o.op=.build t ps)
  (hk:jf cx cJ fA d o oi ⟨s.only R,[],ct,[]⟩=some k'):bV P M B d up ρ a w s o k'.w Q∧k'.ct.i=ct.i:=by
 have hw:=dD.start h R ct
 simp only[jf,ho,cN]at hk
 obtain⟨ti,f_,hk⟩:=hk
 cases K9:ti.ag with
 |false=>simp[K9]at hk
 |true=>
 simp only[K9,cond_true,cN,bG]at hk
 obtain⟨l,hl,cs,kZ,hk⟩:=hk
 have c_:ca d o ⟨s.only R,[],ct,[]⟩ (.v true cs)=k':=hk
 subst c_
 have hT:=ek.ty _ _ f_
 obtain⟨i,z,hi,hs,_,hz,y7⟩:=hT.info
 obtain⟨u,hu,od,_⟩:=hT.ag
 obtain⟨FP,tU⟩:=K7 (G:=G) (w:=w) (ρ:=ρ) y7
 obtain⟨fs,rfl⟩:=od.1 K9
 have hlen:=hT.fl fs hu
 have Bt:∀f∈fs.toList,∃i,P.info? f.type=some i:=by
  intro f hf
  obtain⟨n,xR⟩:=List.getElem?_of_mem hf
  have bf:n<ti.fs.length:=by rw[<-hlen,<-Array.length_toList];exact(List.getElem?_eq_some_iff.1 xR).1
  obtain⟨jC,Au,i',e1,e2,_,e4,_⟩:=hT.fs n ti.fs[n] (List.getElem?_eq_getElem bf)
  rw[hu]at e1
  cases e1
  rw[<-Array.getElem?_toList,xR]at e2
  cases e2
  exact⟨i',e4⟩
 have FO:∀(f:Nat) (o:Nat×Nat),ti.fs[f]?=some o->((fs.toList.map λf=>(f.offset,((P.info? f.type).map (·.size)).getD 0)).toArray)[f]?=some o:=by
  intro f o hf
  obtain⟨jC,Au,i',e1,e2,e3,e4,_,e6⟩:=hT.fs f o hf
  rw[hu]at e1
  cases e1
  simp only[List.getElem?_toArray,List.getElem?_map,Array.getElem?_toList,e2,Option.map_some,e4,Option.getD_some,e3,e6]
 obtain⟨lk,g1,g2,g3,g4⟩:=K8 (a:=a) hw (place:=λf=>((fs.toList.map λf=>(f.offset,((P.info? f.type).map (·.size)).getD 0)).toArray)[f]?) FO ps.toList l ti.zero cs z.cells hl kZ FP (λi hi=>by rw[tU]at hi;cases hi)
 refine⟨sP h hw hn (x:=.v true cs) (v:=.agg lk) (Ey (x:=Instr.build t (ps.map λ(i,x)=>(i,a.eval x))) (by unfold execOp;rw[ho]) ?_) ⟨lk.toList,by simp,g2⟩ g3 Q,by rw[nu]⟩
 have ahz:(fs.mapM λf=>(do pure (f.offset,<-sizeOf f.type):Sem (Nat×Nat))).run P w=.ok (fs.toList.map λf=>(f.offset,((P.info? f.type).map (·.size)).getD 0)).toArray w:=by
  rw[Array.mapM_eq_mapM_toList,Sem.run_map,Td _ Bt]
  rfl
 have Ax:(ps.map λ(x:Nat×Operand)=>(x.1,a.eval x.2)).toList=ps.toList.map λp=>(p.1,a.eval p.2):=by simp
 simp only[Instr.build,Sem.run_bind,zeroValue,typeInfo,run_program,hi,Result.andThen_ok,Sem.run_pure,hz,run_underlying hu,ahz,Ax,g1]
end
section
variable {M M':Nat->Prop} {B:e_} {d:Nat} {up:Nat->Nat->Value} {s:St} {ρ:List T} {G:Gh} {a:Act} {w:World} {S:Nat->af} {P:Program}
structure Bu (M':Nat->Prop) (d:Nat) (up:Nat->Nat->Value) (ρ:List T) (G':Gh) (a':Act) (w':World) (W:St):Prop where
 tm:∀e n u,e<=d->W.look (.t e n)=some u->cK G' w' ρ u (pi up d a' e n)
 bx:∀b u,W.look (.x b)=some u->gk G' w' ρ b u
 ob:∀i u,W.look (.o i)=some u->cL G' w' ρ i u
 gm:∀r u,W.look r=some u->∀i∈dA u,M' i
 key:∀i,(W.look (.x i)≠none∨W.look (.o i)≠none)->M' i
 iG:∀b l,G'.ω b=some l->M' l.id∧b<w'.heap.size
structure jE (w w':World):Prop where
 os:w'.os=w.os
 tape:w'.tape=w.tape
 output:w'.output=w.output
theorem Rel.step(h:Rel M B d up s ρ G a w){N:Nat->Prop}{G':Gh}{w':World}{W:St}(k:dF (pk W) N G w G' w'){dst:Option Nat}{v:Value}
  (hN:∀i,N i->¬M i)(hM:∀i,M i->M' i)(hd:∀n,dst=some n->W.look (.t d n)≠none)(so:jE w w')(st:Bu M' d up ρ G' (a.put dst v) w' W):
  Rel M' B d up (s.fK W) ρ G' (a.put dst v) w':=by
 refine⟨?_,?_,?_,?_,?_,st.iG,?_,?_,λi b hb=>⟨hM i (h.bt i b hb).1,?_⟩⟩
 ·intro e n he
  rw[St.a_]
  cases hl:W.look (.t e n)with
  |some u=>exact st.tm e n u he hl
  |none=>
   rw[KU λ⟨h1,h2⟩=>hd n h2 (h1▸hl)]
   exact(h.tm e n he).bm k λi hi hn=>hN i hn (h.gm _ i hi)
 ·intro b
  rw[St.a_]
  cases hl:W.look (.x b)with
  |some u=>exact st.bx b u hl
  |none=>
   by_cases hu:s.get (.x b)=.un
   ·simp only[Option.getD_none,hu];trivial
   ·exact(h.bx b).bm k (λhk=>hk hl) (λhn=>hN b hn (h.key b (.inl hu))) λi hi hn=>hN i hn (h.gm _ i hi)
 ·intro i
  rw[St.a_]
  cases hl:W.look (.o i)with
  |some u=>exact st.ob i u hl
  |none=>
   by_cases hu:s.get (.o i)=.un
   ·simp only[Option.getD_none,hu];trivial
   ·exact(h.ob i).bm k (λp hk=>hk hl) (λhn=>hN i hn (h.key i (.inr hu))) λj hj hn=>hN j hn (h.gm _ j hj)
 ·intro r i hi
  rw[St.a_]at hi
  cases hl:W.look r with
  |some u=>rw[hl]at hi;exact st.gm r u hl i hi
  |none=>rw[hl]at hi;exact hM i (h.gm r i hi)
 ·intro i hi
  rw[St.a_,St.a_]at hi
  rcases hi with hi|hi
  ·cases hl:W.look (.x i)with
   |some u=>exact st.key i (.inl (by rw[hl];simp))
   |none=>rw[hl]at hi;exact hM i (h.key i (.inl hi))
  ·cases hl:W.look (.o i)with
   |some u=>exact st.key i (.inr (by rw[hl];simp))
   |none=>rw[hl]at hi;exact hM i (h.key i (.inr hi))
 ·have:=h.dn;cases dst<;>exact this
 ·obtain⟨b1,b2,b3,b4,b5,b6,b7⟩:=h.base
  refine⟨so.os.trans b1,so.tape.trans b2,so.output.trans b3,Nat.le_trans b4 k.size,λb hb h0=>?_,λb hb=>?_,b7⟩
  ·obtain⟨h1,h2⟩:=b5 b hb h0
   obtain⟨_,h4⟩:=k.free b (Nat.lt_of_lt_of_le hb b4) (Bd h1)
   exact⟨k.frs b (Nat.lt_of_lt_of_le hb b4) h1,h4.trans h2⟩
  ·obtain⟨h1,h2⟩:=b6 b hb
   obtain⟨h3,h4⟩:=k.own b .f h1 (λhf=>hf)
   exact⟨h3,h4.trans h2⟩
 ·obtain⟨h1,h2⟩:=h.bt i b hb
  rw[(k.nm i λhn=>hN i hn h1).1];exact h2
theorem ahA{W W1 W2:St}(hW:∀r,W.look r=(W2.look r).or (W1.look r)):(∀l,pk W1 l->pk W l)∧(∀l,pk W2 l->pk W l):=by
 constructor
 ·intro l hl
  cases l with
  |f=>exact hl
  |x b=>show W.look _≠none;rw[hW];intro e;rw[Option.or_eq_none_iff]at e;exact hl e.2
  |o i p=>show W.look _≠none;rw[hW];intro e;rw[Option.or_eq_none_iff]at e;exact hl e.2
 ·intro l hl
  cases l with
  |f=>exact hl
  |x b=>show W.look _≠none;rw[hW];intro e;rw[Option.or_eq_none_iff]at e;exact hl e.1
  |o i p=>show W.look _≠none;rw[hW];intro e;rw[Option.or_eq_none_iff]at e;exact hl e.1
theorem K_{k:Wk}{G1:Gh}(h:Rel M B d up s ρ G a w)(hk:dD M B d up ρ G a w k G1){dst:Option Nat}{v:Value}{w':World}{G2:Gh}{N:Nat->Prop}{W W2:St}
  (hW:∀r,W.look r=(W2.look r).or (k.w.look r))(bm:dF (pk W2) N G1 w G2 w')(hN:∀i,N i->¬M i)(hM:∀i,M i->M' i)
  (hd:∀n,dst=some n->W2.look (.t d n)≠none)(so:jE w w')(st:Bu M' d up ρ G2 (a.put dst v) w' W2):
  Rel M' B d up (s.fK W) ρ G2 (a.put dst v) w':=by
 have hg:∀r,(k.r.fK W).get r=((k.r.fK k.w).fK W2).get r:=by
  intro r
  rw[St.a_,St.a_,St.a_,hW]
  cases W2.look r<;>rfl
 obtain⟨k1,k2⟩:=ahA hW
 refine h.glue (s':=k.r) ((hk.bm.mono k1 λ_ hf=>hf.elim).trans (bm.mono k2 λ_ hn=>hn)) hN hM (λn hn he=>?_) ((hk.rel.step bm hN hM hd so st).congr hg)
 rw[hW,Option.or_eq_none_iff]at he
 exact hd n hn he.1
variable {cx:Cx} {cJ fA oi:Nat} {R:List bE} {ct:Ct} {k':Wk} {o:Oper} {Q:Exit->Act->World->Prop}
def Mn(M:Nat->Prop)(lo hi:Nat):Nat->Prop:=λi=>M i∨(lo<=i∧i<hi)
theorem Mn.left{M:Nat->Prop}{lo hi i:Nat}(h:M i):Mn M lo hi i:=.inl h
theorem ahB{k:Wk}{v:SV}(r:bE):(ca d o k v).w.look r=if o.dst.map (bE.t d)=some r then some v else k.w.look r:=by
 unfold ca
 cases o.dst with
 |none=>simp
 |some n=>
  simp only[Option.map_some,bG]
  split
  ·rename_i he;subst he;exact St.bz _ _ _
  ·rename_i he;exact St.cF _ _ he
def fN(d:Nat)(o:Oper)(v:SV):St:=match o.dst with|some n=>[(.t d n,v)]|none=>[]
theorem La{v:SV}(r:bE):(fN d o v).look r=if o.dst.map (bE.t d)=some r then some v else none:=by
 unfold fN
 cases o.dst with
 |none=>simp[St.look]
 |some n=>
  simp only[Option.map_some,bG,St.look]
  cases hb:(bE.t d n).beq r with
  |true=>simp[bE.beq_iff.1 hb]
  |false=>
   have:¬(bE.t d n=r):=λe=>by simp[bE.beq_iff.2 e]at hb
   simp[this]
theorem mG(A C:St)(r:bE):(A++C).look r=(A.look r).or (C.look r):=by
 induction A with
 |nil=>simp[St.look]
 |cons x A ih=>
  obtain⟨r',v⟩:=x
  simp only[List.cons_append,St.look]
  cases r'.beq r<;>simp[ih]
theorem vS(r r':bE)(v:SV):St.look [(r,v)] r'=if r=r' then some v else none:=by
 simp only[St.look]
 cases hb:r.beq r' with
 |true=>simp[bE.beq_iff.1 hb]
 |false=>
  have:¬(r=r'):=λe=>by simp[bE.beq_iff.2 e]at hb
  simp[this]
theorem zh{k k0:Wk}{v:SV}{W2:St}(hk:∀r,k.w.look r=(W2.look r).or (k0.w.look r))(r:bE):(ca d o k v).w.look r=((fN d o v++W2).look r).or (k0.w.look r):=by
 rw[ahB,mG,La,hk]
 split<;>simp
theorem vT{k:Wk}{r:bE}{v:SV}(r':bE):(k.w.set r v).look r'=(St.look [(r,v)] r').or (k.w.look r'):=by
 rw[vS]
 by_cases h:r=r'
 ·subst h;rw[St.bz];simp
 ·rw[St.cF _ _ h];simp[h]
theorem lK{x u:SV}{W:St}{r:bE}(h:(fN d o x++W).look r=some u):(∃n,o.dst=some n∧r=.t d n∧u=x)∨W.look r=some u:=by
 rw[mG,La]at h
 split at h
 ·rename_i he
  cases hd:o.dst with
  |none=>simp[hd]at he
  |some n=>
   simp[hd]at he
   simp at h
   exact .inl ⟨n,rfl,he.symm,h.symm⟩
 ·simp at h
  exact .inr h
theorem j8{r r':bE}{v u:SV}{W:St}(h:St.look ((r,v)::W) r'=some u):(r'=r∧u=v)∨W.look r'=some u:=by
 simp only[St.look]at h
 cases hb:r.beq r' with
 |true=>simp[hb]at h;exact .inl ⟨(bE.beq_iff.1 hb).symm,h.symm⟩
 |false=>simp[hb]at h;exact .inr h
theorem Lc{x:SV}{W:St}{n:Nat}(h:o.dst=some n):(fN d o x++W).look (.t d n)≠none:=by
 rw[mG,La,h];simp
def Gh.box(G:Gh)(b i:Nat):Gh:=
 {G with ω:=λc=>if c=b then some (.x i)else G.ω c,β:=λj=>if j=i then b else G.β j}
theorem ahC{s:St}(h:Rel M B d up s ρ G a w){b:Nat}(hb:w.heap.size<=b):G.ω b=none:=by
 cases ho:G.ω b with
 |none=>rfl
 |some l=>have:=(h.iG b l ho).2;omega
theorem FQ(w:World)(o:Obj):jE w (w.alloc o):=⟨rfl,rfl,rfl⟩
theorem Te{k:Wk}{G1:Gh}(h:Rel M B d up s ρ G a w)(hk:dD M B d up ρ G a w k G1)(hn:∀n,o.dst=some n->n<a.tmps.size)(hM:¬M k.ct.i)
  {b9:Array Value}{t:TypeId}{ag:Bool}{cs:List Ce}(kZ:bk G1 w ρ cs b9.toList)(FR:∀i∈dV cs,M i)
  (hx:(execOp a.eval o).run P w=.ok (.value (.pointer (some ⟨w.heap.size,0,none⟩))) (w.alloc (.cells b9 t))):
  bV P (Mn M k.ct.i (k.ct.i+1)) B d up ρ a w s o (ca d o {(k.set (.x k.ct.i) (.v ag cs))with ct:=⟨k.ct.a,k.ct.i+1⟩} (.pt k.ct.i 0)).w Q:=by
 have hf:=ahC hk.rel (Nat.le_refl w.heap.size)
 have hK:dF (pk (fN d o (.pt k.ct.i 0)++[(.x k.ct.i,.v ag cs)])) (λi=>i=k.ct.i) G1 w (G1.box w.heap.size k.ct.i) (w.alloc (.cells b9 t)):=by
  refine⟨by simp,λb hb h0=>?_,λb hb h0=>?_,λb l hb _=>?_,λi hi=>?_⟩
  ·have:b≠w.heap.size:=by omega
   exact⟨(Gh.wM (by simp[Gh.box,this])).trans h0,heap_alloc_old w _ b hb⟩
  ·have:b≠w.heap.size:=by omega
   simp[Gh.box,this,h0]
  ·have bf:=(hk.rel.iG b l hb).2
   have:b≠w.heap.size:=by omega
   exact⟨by simp[Gh.box,this,hb],heap_alloc_old w _ b bf⟩
  ·exact⟨by simp[Gh.box,hi],λ_ _=>rfl⟩
 have dH:∀i∈dV cs,¬(i=k.ct.i):=λi hi e=>hM (e▸FR i hi)
 simp only[bV,Oper.wp,hx,Oper.upon]
 refine⟨G1.box w.heap.size k.ct.i,K_ h hk (W2:=fN d o (.pt k.ct.i 0)++[(.x k.ct.i,.v ag cs)]) (zh (W2:=[(.x k.ct.i,.v ag cs)]) (k:={(k.set (.x k.ct.i) (.v ag cs))with ct:=⟨k.ct.a,k.ct.i+1⟩}) λr=>by exact vT (k:=k) (r:=.x k.ct.i) (v:=.v ag cs) r)
  hK (λi hi=>by subst hi;exact hM) (λi hi=>.inl hi) (λn pA=>Lc pA) (FQ _ _) ?_,Bj _ _ _⟩
 have hX:Mn M k.ct.i (k.ct.i+1) k.ct.i:=.inr ⟨Nat.le_refl _,Nat.lt_succ_self _⟩
 refine⟨λe n u he hl=>?_,λb u hl=>?_,λi u hl=>?_,λr u hl i hi=>?_,λi hi=>?_,λb l hb=>?_⟩
 ·rcases lK hl with⟨n',iW,e1,rfl⟩|hl
  ·cases e1
   rw[iW,SR (hn _ iW)]
   simp[cK,Gh.box]
  ·rcases j8 hl with⟨e1,_⟩|hl
   ·cases e1
   ·cases hl
 ·rcases lK hl with⟨n',iW,e1,rfl⟩|hl
  ·cases e1
  ·rcases j8 hl with⟨e1,rfl⟩|hl
   ·cases e1
    refine⟨by simp[Gh.box],b9,t,?_,kZ.bm hK dH⟩
    simpa only[Gh.box,if_pos]using heap_alloc_new w (.cells b9 t)
   ·cases hl
 ·rcases lK hl with⟨n',iW,e1,rfl⟩|hl
  ·cases e1
  ·rcases j8 hl with⟨e1,rfl⟩|hl
   ·cases e1
   ·cases hl
 ·rcases lK hl with⟨n',iW,e1,rfl⟩|hl
  ·simp[dA]at hi;subst hi;exact hX
  ·rcases j8 hl with⟨e1,rfl⟩|hl
   ·exact .inl (FR i hi)
   ·cases hl
 ·have:∀r:bE,(r=.x i∨r=.o i)->St.look (fN d o (.pt k.ct.i 0)++[(bE.x k.ct.i,SV.v ag cs)]) r≠none->i=k.ct.i:=by
   intro r hr hl
   obtain⟨u,hu⟩:=Option.ne_none_iff_exists'.1 hl
   rcases lK hu with⟨n',iW,e1,rfl⟩|hl
   ·rcases hr with rfl|rfl<;>cases e1
   ·rcases j8 hl with⟨e1,rfl⟩|hl
    ·rcases hr with rfl|rfl
     ·cases e1;rfl
     ·cases e1
    ·cases hl
  rcases hi with hi|hi
  ·rw[this _ (.inl rfl) hi];exact hX
  ·rw[this _ (.inr rfl) hi];exact hX
 ·simp only[Gh.box]at hb
  split at hb
  ·rename_i he
   cases hb
   exact⟨hX,by simp[he]⟩
  ·obtain⟨h1,h2⟩:=hk.rel.iG b l hb
   exact⟨.inl h1,by simp;omega⟩
theorem ahD(ek:eL P cx)(h:Rel M B d up s ρ G a w)(hn:∀n,o.dst=some n->n<a.tmps.size){t:Nat}(ho:o.op=.alloc t)
  (hk:jf cx cJ fA d o oi ⟨s.only R,[],ct,[]⟩=some k')(hM:∀i,ct.i<=i->i<k'.ct.i->¬M i):bV P (Mn M ct.i k'.ct.i) B d up ρ a w s o k'.w Q:=by
 have hw:=dD.start h R ct
 simp only[jf,ho,cN,bG]at hk
 obtain⟨ti,f_,hk⟩:=hk
 have c_:ca d o {(Wk.set ⟨s.only R,[],ct,[]⟩ (.x ct.i) (.v ti.ag ti.zero))with ct:=⟨ct.a,ct.i+1⟩} (.pt ct.i 0)=k':=hk
 have pV:k'.ct.i=ct.i+1:=by rw[<-c_,nu]
 have hT:=ek.ty _ _ f_
 obtain⟨i,z,hi,hs,_,hz,y7⟩:=hT.info
 obtain⟨FP,tU⟩:=K7 (G:=G) (w:=w) (ρ:=ρ) y7
 rw[pV,<-c_]
 refine Te (b9:=z.cells) (t:=t) h hw hn (hM _ (Nat.le_refl _) (by simp only[pV];omega)) FP (λi hi=>by rw[tU]at hi;cases hi) ?_
 unfold execOp
 rw[ho]
 simp[Instr.alloc,zeroValue,typeInfo,hi,hz,newVar,newRow]
theorem ahE(ek:eL P cx)(h:Rel M B d up s ρ G a w)(hn:∀n,o.dst=some n->n<a.tmps.size){t:Nat}{x:Operand}(ho:o.op=.box t x)
  (hk:jf cx cJ fA d o oi ⟨s.only R,[],ct,[]⟩=some k')(hM:∀i,ct.i<=i->i<k'.ct.i->¬M i):bV P (Mn M ct.i k'.ct.i) B d up ρ a w s o k'.w Q:=by
 have hw:=dD.start h R ct
 simp only[jf,ho,cN]at hk
 obtain⟨ti,f_,cs,kZ,hk⟩:=hk
 cases hl:Nat.beq cs.length ti.sz with
 |false=>simp[hl]at hk
 |true=>
  simp only[hl,cond_true,bG]at hk
  have c_:ca d o {(Wk.set ⟨s.only R,[],ct,[]⟩ (.x ct.i) (.v ti.ag cs))with ct:=⟨ct.a,ct.i+1⟩} (.pt ct.i 0)=k':=hk
  have pV:k'.ct.i=ct.i+1:=by rw[<-c_,nu]
  obtain⟨hr,hm⟩:=hw.iV x
  unfold cellsOf at kZ
  split at kZ
  ·rename_i ag es eo
   cases kZ
   rw[eo]at hr hm
   rw[pV,<-c_]
   refine Te (b9:=(a.eval x).cells) (t:=t) h hw hn (hM _ (Nat.le_refl _) (by simp only[pV];omega)) (Tc hr) hm ?_
   unfold execOp
   rw[ho]
   simp[Instr.box,newVar,newRow]
  ·cases kZ
theorem Tf{k:Wk}{G1:Gh}(hk:dD M B d up ρ G a w k G1):∀(xs:List Operand) (bs:List Nat),
  (xs.mapM λx=>match cn d k.get x with| .pt b 0=>some b|_=>none)=some bs->xs.map a.eval=bs.map (λb=>Value.pointer (some ⟨G1.β b,0,none⟩))∧∀b∈bs,M b
 | [],bs,h=>by simp at h;subst h;exact⟨rfl,λ_ h=>by cases h⟩
 |x::xs,bs,h=>by
  simp only[List.mapM_cons,Option.pure_def,Option.bind_eq_bind,cN,bG]at h
  obtain⟨b,hb,zi,Tg,rfl⟩:=h
  obtain⟨h1,h2⟩:=Tf hk xs zi Tg
  obtain⟨hr,hm⟩:=hk.iV x
  split at hb
  ·rename_i b' eo
   cases hb
   rw[eo]at hr hm
   refine⟨by simp only[List.map_cons,h1];rw[show a.eval x=_ from hr],λc hc=>?_⟩
   rcases List.mem_cons.1 hc with rfl|hc
   ·exact hm _ (by simp[dA])
   ·exact h2 c hc
  ·cases hb
theorem ahF(h:Rel M B d up s ρ G a w)(hn:∀n,o.dst=some n->n<a.tmps.size){fn:Fn}{first yN:Array Operand}(ho:o.op=.makeFunc fn first yN)
  (hk:jf cx cJ fA d o oi ⟨s.only R,[],ct,[]⟩=some k'):bV P M B d up ρ a w s o k'.w Q∧k'.ct.i=ct.i:=by
 have hw:=dD.start h R ct
 cases fn with
 |func f=>
  simp only[jf,ho]at hk
  cases he:first.isEmpty with
  |false=>simp[he]at hk
  |true=>
   simp only[he,cond_true,cN,bG]at hk
   obtain⟨bs,Tg,hk⟩:=hk
   have c_:ca d o ⟨s.only R,[],ct,[]⟩ (.cl f bs)=k':=hk
   subst c_
   obtain⟨h1,h2⟩:=Tf hw _ bs Tg
   have Ld:first=#[]:=by simpa using he
   refine⟨sP h hw hn (x:=.cl f bs) (v:=.func (.func f) #[] (yN.map a.eval)) (Ey (x:=Instr.makeFunc (.func f) (first.map a.eval) (yN.map a.eval)) (by unfold execOp;rw[ho]) ?_) ?_ h2 Q,by rw[nu]⟩
   ·rw[Ld];simp[Instr.makeFunc]
   ·show _=_
    congr 1
    apply Array.ext'
    simpa using h1
 |_=>simp[jf,ho]at hk
end
end Go.Proofs.YtjimmglpkndemaaGreatC

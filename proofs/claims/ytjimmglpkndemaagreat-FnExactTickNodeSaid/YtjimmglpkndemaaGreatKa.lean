/- The walk by reflection: a part of its laws, for any function. Conditions: none. -/
import Derived.Calls
import Derived.Orders
import Derived.Below
import Derived.KernelRfl
import Derived.Laws.OwnMore
import Derived.Laws.Cells
import Derived.Laws.IdiomCopy
import Derived.Laws.Small
import Derived.Laws.Entries
import Derived.Laws.StructEq
import Derived.Laws.BytesString
namespace Go.Proofs.YtjimmglpkndemaaGreatC
theorem br.{u}{α:Type u}(a b:α):(some a=some b)=(a=b):=Option.some.injEq a b
theorem bk(a b:Bool):((a&&b)=true)=(a=true∧b=true):=Bool.and_eq_true a b
theorem cG.{u,v}{α:Type u}{β:Type v}{x:Option α}{f:α->Option β}{b:β}:x.bind f=some b↔∃a,x=some a∧f a=some b:=Option.bind_eq_some_iff
theorem dN{n m:Nat}(h:Nat.beq n m=true):n=m:=Nat.eq_of_beq_eq_true h
theorem az{a b:Prop}(x:a)(y:b):a∧b:=⟨x,y⟩
theorem dS:(false=true)=False:=Bool.false_eq_true
set_option linter.unusedVariables false
inductive T where
 |c (v:Value)
 |l (xs:List (List T))
 deriving Inhabited
inductive Lf where
 |k (v:Value)
 |a (n:Nat)
 |e
inductive bn where
 |t (d n:Nat)
 |x (n:Nat)
 |o (n:Nat)
abbrev mJ:=List (Lf×Nat×Nat)
inductive Ce where
 |p (x:Lf)
 |o (id:Nat) (q:mJ)
 |n
 |d
inductive Pv where
 |z
 |w (tk:Nat) (x lo:Lf)
inductive SV where
 |un
 |v (ag:Bool) (cs:List Ce)
 |pt (bx off:Nat)
 |ep (id:Nat) (q:mJ) (ix:Lf) (wd off:Nat)
 |fp (s ix:Lf) (wd off:Nat)
 |tp (vs:List (Bool×List Ce))
 |cl (f:Nat) (bs:List Nat)
 |ob (dp:Bool) (x:Lf)
 |fz (pv:Pv) (x:Lf)
 |tk (x m:Lf)
 |fl (x:Lf)
 |fr (x:Lf)
def bn.beq:bn->bn->Bool
 | .t d n,.t e m=>Nat.beq n m&&Nat.beq d e
 | .x n,.x m=>Nat.beq n m
 | .o n,.o m=>Nat.beq n m
 |_,_=>false
theorem bn.beq_iff{r s:bn}:r.beq s=true↔r=s:=by
 cases r<;>cases s<;>simp[bn.beq,and_comm]
instance:DecidableEq bn:=λr s=>if h:r.beq s=true then isTrue (bn.beq_iff.1 h)else isFalse λe=>h (bn.beq_iff.2 e)
abbrev St:=List (bn×SV)
def St.get(s:St)(r:bn):SV:=
 match s with
 | []=>.un
 |(r',v)::s=>bif r'.beq r then v else St.get s r
def St.set(s:St)(r:bn)(v:SV):St:=
 match s with
 | []=>[(r,v)]
 |(r',v')::s=>bif r'.beq r then(r,v)::s else(r',v')::St.set s r v
theorem St.cg(s:St)(r:bn)(v:SV):(s.set r v).get r=v:=by
 induction s with
 |nil=>simp[St.set,St.get,(bn.beq_iff).2 rfl]
 |cons x s ih=>
  obtain⟨r',v'⟩:=x
  cases h:r'.beq r with
  |true=>simp[St.set,St.get,h,(bn.beq_iff).2 rfl]
  |false=>simp[St.set,St.get,h,ih]
theorem St.eh(s:St){r r':bn}(v:SV)(h:r≠r'):(s.set r v).get r'=s.get r':=by
 have hb:r.beq r'=false:=by
  cases hh:r.beq r' with
  |false=>rfl
  |true=>exact absurd (bn.beq_iff.1 hh) h
 induction s with
 |nil=>simp[St.set,St.get,hb]
 |cons x s ih=>
  obtain⟨r2,v2⟩:=x
  cases h2:r2.beq r with
  |true=>
   have:=bn.beq_iff.1 h2
   subst this
   simp[St.set,St.get,h2,hb]
  |false=>
   cases h3:r2.beq r' with
   |true=>simp[St.set,St.get,h2,h3]
   |false=>simp[St.set,St.get,h2,h3,ih]
inductive Prim where
 |bin (op:BinOp)
 |bb (op:BinOp)
 |un (op:UnOp)
 |len
 |lens
 |bW
 |cell (w j:Nat)
 |a_ (w j:Nat)
 |idx
 |sub (w:Nat) (lo hi:Bool)
 |zM (lo hi:Bool)
 |lit (w:Nat) (ms:List Bool)
 |app (sc:Bool) (w:Nat)
 |mk
 |put (sc:Bool) (w off n:Nat)
 |gj (ms:List Bool) (w off:Nat)
 |dJ (w j:Nat)
 |jd (w j:Nat)
 |s5 (ks:List Nat)
 |mx
 |mn
 |cnv (k:IntKind)
 |bz
 |str
 |byt
 |xw
 |ko
inductive Dm where
 |pr (p:Prim) (xs:List Lf)
 |cl (g:Nat) (xs:List Lf) (m:Nat)
inductive PL where
 |ret (xs:List Lf)
 |ins (i:Dm) (k:PL)
 |ite (c:Nat) (x y:PL)
 |loop (xs:List Lf) (body:PL)
 |join (k:PL) (body:PL)
 |go (j:Nat) (xs:List Lf)
 |qR (tag:Nat) (s:List St)
def T.cp:T:=.l []
def Lf.ev(ρ:List T):Lf->T
 | .k v=>.c v
 | .a n=>ρ.getD n T.cp
 | .e=>.l []
def qS:Nat:=4294967296
def lO(op:BinOp):Value->Value->Option Value
 | .int k a,.int k' b=>
  match op with
  | .shl=>if b<0 then none else some (.int k (k.wrap (a*2^(min b.toNat k.bits))))
  | .shr=>if b<0 then none else some (.int k (a.fdiv (2^(min b.toNat k.bits))))
  |op=>
  if k=k' then
   match op with
   | .and=>some (.int k (k.wrap ((BitVec.ofInt k.bits a&&&BitVec.ofInt k.bits b).toNat:Nat)))
   | .or=>some (.int k (k.wrap ((BitVec.ofInt k.bits a|||BitVec.ofInt k.bits b).toNat:Nat)))
   | .xor=>some (.int k (k.wrap ((BitVec.ofInt k.bits a^^^BitVec.ofInt k.bits b).toNat:Nat)))
   | .andNot=>some (.int k (k.wrap ((BitVec.ofInt k.bits a&&& ~~~BitVec.ofInt k.bits b).toNat:Nat)))
   | .add=>some (.int k (k.wrap (a+b)))
   | .sub=>some (.int k (k.wrap (a-b)))
   | .mul=>some (.int k (k.wrap (a*b)))
   | .quo=>if b=0 then none else some (.int k (k.wrap (a.tdiv b)))
   | .rem=>if b=0 then none else some (.int k (a.tmod b))
   | .eql=>some (.bool (a==b))
   | .neq=>some (.bool (a !=b))
   | .lss=>some (.bool (decide (a<b)))
   | .leq=>some (.bool (decide (a<=b)))
   | .gtr=>some (.bool (decide (a>b)))
   | .geq=>some (.bool (decide (a>=b)))
   |_=>none
  else none
 | .string a,.string b=>
  match op with
  | .add=>if a.size+b.size<qS then some (.string (a++b))else none
  | .eql=>some (.bool (a.toList==b.toList))
  | .neq=>some (.bool !(a.toList==b.toList))
  |_=>none
 |_,_=>none
def Iw(op:BinOp):Value->Value->Option Value
 | .bool a,.bool b=>
  match op with
  | .eql=>some (.bool (a==b))
  | .neq=>some (.bool !(a==b))
  |_=>none
 |_,_=>none
def unV(op:UnOp):Value->Option Value
 | .bool a=>match op with| .not=>some (.bool !a)|_=>none
 | .int k a=>match op with| .neg=>some (.int k (k.wrap (0-a)))|_=>none
 |_=>none
def T.val:T->Option Value
 | .c v=>some v
 | .l _=>none
def T.int:T->Option Int
 | .c (.int _ n)=>some n
 |_=>none
def T.rows:T->Option (List (List T))
 | .l xs=>some xs
 |_=>none
def uE(s i:T):Option (List T):=
 s.rows.bind λxs=>i.int.bind λn=>if 0<=n then xs[n.toNat]? else none
def qA(w:Nat):Nat->List T->List (List T)
 |0,_=>[]
 |n+1,ts=>ts.take w::qA w n (ts.drop w)
def eA:T->Bool
 | .c (.int ..)| .c (.bool _)| .c (.string _)=>true
 |_=>false
def OS:Nat->Value->Value->Option Bool
 |1,.int k a,.int k' b=>if k=k' then some (a==b)else none
 |4,.bool a,.bool b=>some (a==b)
 |2,.string a,.string b=>some (a==b)
 |_,_,_=>none
def ww:List Nat->List T->List T->Option Bool
 | [],[],[]=>some true
 |k::ks,.c x::xs,.c y::ys=>(OS k x y).bind λb=>(ww ks xs ys).bind λc=>some (b&&c)
 |_,_,_=>none
def setRow(xs:List (List T))(i off:Nat)(vs:List T):List (List T):=
 xs.modify i λr=>r.take off++vs++r.drop (off+vs.length)
def rl:List Bool->List T->Bool
 |true::ms,t::ts=>eA t&&rl ms ts
 |false::ms,_::ts=>rl ms ts
 |true::_,[]=>false
 |_,_=>true
def okW(w:Nat):List (List T)->Bool
 | []=>true
 |r::_=>Nat.beq r.length w
def rp(us:List (List T))(n k:Nat):Bool:=((us.drop n).take k).all λr=>!r.isEmpty
def zj(us:List (List T))(n k:Nat):List (List T):=us.take n++List.replicate k []++us.drop (n+k)
def Qb:List T->Option Int
 | [.c (.int .u8 n)]=>some n
 |_=>none
def xy:List (List T)->Option (List Int)
 | []=>some []
 |r::rs=>(Qb r).bind λn=>(xy rs).bind λns=>some (n::ns)
def zN(ns:List Int):ByteArray:=⟨(ns.map λn=>UInt8.ofNat n.toNat).toArray⟩
def Prim.ev:Prim->List T->Option T
 | .bin op,[x,y]=>x.val.bind λa=>y.val.bind λb=>(lO op a b).bind λr=>some (.c r)
 | .bb op,[x,y]=>x.val.bind λa=>y.val.bind λb=>(Iw op a b).bind λr=>some (.c r)
 | .un op,[x]=>x.val.bind λa=>(unV op a).bind λr=>some (.c r)
 | .len,[.l xs]=>some (.c (.int .i64 xs.length))
 | .lens,[.c (.string s)]=>some (.c (.int .i64 s.size))
 | .bW,[s,i]=>(uE s i).bind λ_=>some (.c (.bool true))
 | .cell w j,[s,i]=>(uE s i).bind λr=>if r.length=w then r[j]? else none
 | .a_ w j,[s,i]=>(uE s i).bind λr=>if r.length=w then(r[j]?).bind λt=>if eA t=true then some t else none else none
 | .idx,[.c (.string s),.c (.int _ n)]=>if 0<=n then(if h:n.toNat<s.size then some (.c (.int .u8 (s.get n.toNat h).toNat))else none)else none
 | .sub w lo hi,.l xs::ts=>if okW w xs=true then
  (match lo,hi,ts with
   |false,false,[]=>some (0,(xs.length:Int))
   |true,false,[.c (.int _ l)]=>some (l,(xs.length:Int))
   |false,true,[.c (.int _ h)]=>some (0,h)
   |true,true,[.c (.int _ l),.c (.int _ h)]=>some (l,h)
   |_,_,_=>none).bind λ(l,h)=>
   if 0<=l then(if l<=h then(if h<=xs.length then some (.l ((xs.take h.toNat).drop l.toNat))else none)else none)else none
  else none
 | .zM lo hi,.c (.string s)::ts=>
  (match lo,hi,ts with
   |false,false,[]=>some (0,(s.size:Int))
   |true,false,[.c (.int _ l)]=>some (l,(s.size:Int))
   |false,true,[.c (.int _ h)]=>some (0,h)
   |true,true,[.c (.int _ l),.c (.int _ h)]=>some (l,h)
   |_,_,_=>none).bind λ(l,h)=>
   if 0<=l then(if l<=h then(if h<=s.size then some (.c (.string (s.extract l.toNat h.toNat)))else none)else none)else none
 | .lit w ms,ts=>if 0<w then(if rl ms ts=true then some (.l (qA w (ts.length/w) ts))else none)else none
 | .app sc w,[.l xs,.l ys]=>if xs.length+ys.length<qS then(if(!sc||ys.all (·.all eA))=true then(if okW w xs=true then(if okW w ys=true then some (.l (xs++ys))else none)else none)else none)else none
 | .mk,.c (.int _ n):: .c (.int _ c)::ts=>if 0<=n then(if n=c then(if c<qS then some (.l (List.replicate n.toNat ts))else none)else none)else none
 | .put sc w off n,s::i::vs=>(uE s i).bind λr=>if r.length=w then(if off+n<=w then(if vs.length=n then(if(!sc||vs.all eA)=true then
   s.rows.bind λxs=>i.int.bind λk=>some (.l (setRow xs k.toNat off vs))else none)else none)else none)else none
 | .gj ms w off,s::i::vs=>(uE s i).bind λr=>if r.length=w then(if off+vs.length<=w then(if rl ms vs=true then
   s.rows.bind λxs=>i.int.bind λk=>some (.l (setRow xs k.toNat off vs))else none)else none)else none
 | .dJ w j,[s,i]=>(uE s i).bind λr=>if r.length=w then(r[j]?).bind λt=>t.rows.bind λxs=>some (.l xs)else none
 | .jd w j,[s,i,v]=>(uE s i).bind λr=>if r.length=w then(if j<w then
   s.rows.bind λxs=>i.int.bind λk=>some (.l (setRow xs k.toNat j [v]))else none)else none
 | .s5 ks,ts=>(ww ks (ts.take ks.length) (ts.drop ks.length)).bind λb=>some (.c (.bool b))
 | .mx,[.c (.int k a),.c (.int _ b)]=>some (.c (.int k (if b>a then b else a)))
 | .mn,[.c (.int k a),.c (.int _ b)]=>some (.c (.int k (if b<a then b else a)))
 | .bz,[t]=>if eA t=true then some t else none
 | .xw,[.l us,.c (.int _ n)]=>if 0<=n then(if n.toNat+1<=us.length then(if rp us n.toNat 1=true then some (.l (zj us n.toNat 1))else none)else none)else none
 | .ko,[.l us,.c (.int _ n),.l ys]=>if 0<=n then(if n.toNat+ys.length<=us.length then(if rp us n.toNat ys.length=true then some (.l (zj us n.toNat ys.length))else none)else none)else none
 | .cnv k,[.c (.int _ n)]=>some (.c (.int k (k.wrap n)))
 | .str,[.l xs]=>(xy xs).bind λns=>some (.c (.string (zN ns)))
 |_,_=>none
def fS(ts:List T):Nat->Nat->List T
 |_,0=>[]
 |i,m+1=>ts.getD i T.cp::fS ts (i+1) m
abbrev af:=List T->Option (List T)
def Dm.ev(S:Nat->af)(ρ:List T):Dm->Option (List T)
 | .pr p xs=>(p.ev (xs.map (Lf.ev ρ))).bind λt=>some [t]
 | .cl g xs m=>(S g (xs.map (Lf.ev ρ))).bind λts=>some (fS ts 0 m)
def iter{α β:Type}(F:(α->Option β)->α->Option β):Nat->α->Option β
 |0,_=>none
 |n+1,x=>F (iter F n) x
def rounds:Nat:=1099511627776
def PL.den(S:Nat->af)(R:Nat)(K:List af)(ρ:List T):PL->Option (List T)
 | .ret xs=>some (xs.map (Lf.ev ρ))
 | .ins (.pr p xs) k=>(p.ev (xs.map (Lf.ev ρ))).bind λt=>k.den S R K (ρ++[t])
 | .ins (.cl g xs m) k=>(S g (xs.map (Lf.ev ρ))).bind λts=>k.den S R K (ρ++fS ts 0 m)
 | .ite c x y=>match ρ.getD c T.cp with
  | .c (.bool b)=>bif b then x.den S R K ρ else y.den S R K ρ
  |_=>none
 | .loop xs body=>iter (λself ts=>body.den S R (self::K) (ρ++ts)) R (xs.map (Lf.ev ρ))
 | .join k body=>body.den S R ((λts=>k.den S R K (ρ++ts))::K) ρ
 | .go j xs=>match K[j]? with
  |some f=>f (xs.map (Lf.ev ρ))
  |none=>none
 | .qR _ _=>none
structure TI where
 sz:Nat
 bytes:Nat
 ag:Bool
 zero:List Ce
 el:Nat
 fs:List (Nat×Nat)
 kd:Nat
inductive Ck where
 |s
 |p
 |o (dp:Bool)
inductive PS where
 |v (ag:Bool) (n:Nat)
 |x (n:Nat)
structure nw where
 ps:List PS
 rs:List (Bool×List Ck)
structure Ct where
 a:Nat
 i:Nat
abbrev jF:=List (Nat×Bool)
def fact(fs:jF)(n:Nat):Option Bool:=
 match fs with
 | []=>none
 |(m,b)::fs=>bif Nat.beq m n then some b else fact fs n
inductive Cj where
 |k
 |p
 |o (dp:Bool)
 |d
inductive Rj where
 |drop
 |aI (ag:Bool) (cs:List Cj)
 |rows (js:List (Nat×Bool))
abbrev Js:=List (Nat×Bool×Rj)
structure Cx where
 ty:Nat->Option TI
 sg:Nat->Option nw
 fn:Nat->Option Func
 qB:Nat->Nat->Nat->Option Js
 fz:Nat->Nat->Nat->Bool
 nest:Nat->Bool
def j_:Value->Bool
 | .int .. | .bool _| .string _=>true
 |_=>false
def zO:Value->SV
 | .slice none 0 0=>.v false [.n]
 |v=>bif j_ v then .v false [.p (.k v)]else .un
def ch(d:Nat)(s:bn->SV):Operand->SV
 | .tmp t=>s (.t d t)
 | .const v=>zO v
 | .func f=>.cl f []
 | .global _=>.un
def cellsOf:SV->Option (List Ce)
 | .v _ cs=>some cs
 |_=>none
def Lf.beq:Lf->Lf->Bool
 | .a n,.a m=>Nat.beq n m
 | .e,.e=>true
 | .k (.int k1 n),.k (.int k2 m)=>decide (k1=k2)&&decide (n=m)
 | .k (.bool b1),.k (.bool b2)=>b1==b2
 | .k (.string s1),.k (.string s2)=>s1.data.toList==s2.data.toList
 |_,_=>false
structure Wk where
 r:St
 w:St
 ct:Ct
 is:List Dm
def St.look(s:St)(r:bn):Option SV:=
 match s with
 | []=>none
 |(r',v)::s=>bif r'.beq r then some v else St.look s r
def Wk.get(k:Wk)(r:bn):SV:=
 match k.w.look r with
 |some v=>v
 |none=>k.r.get r
def Wk.em(k:Wk)(p:Prim)(xs:List Lf):Wk×Lf:=({k with ct:=⟨k.ct.a+1,k.ct.i⟩,is:=.pr p xs::k.is},.a k.ct.a)
def Wk.set(k:Wk)(r:bn)(v:SV):Wk:={k with w:=k.w.set r v}
def Wk.down(k:Wk)(x:Lf):mJ->Wk×Lf
 | []=>(k,x)
 |(ix,w,j)::q=>
  let(k,y):=k.em (.dJ w j) [x,ix]
  Wk.down k y q
def Wk.up(k:Wk)(x y:Lf):mJ->Wk×Lf
 | []=>(k,y)
 |(ix,w,j)::q=>
  let(k,z):=k.em (.dJ w j) [x,ix]
  let(k,z):=Wk.up k z y q
  k.em (.jd w j) [x,ix,z]
def Wk.val(k:Wk):Ce->Option (Wk×Lf)
 | .p x=>some (k,x)
 | .n=>some (k,.e)
 | .o id q=>
  match k.get (.o id)with
  | .ob true x=>some (k.down x q)
  | .ob false x| .fz _ x| .fl x=>match q with
   | []=>some (k,x)
   |_=>none
  |_=>none
 | .d=>none
def Wk.je(k:Wk):List Ce->Option (Wk×List Lf)
 | []=>some (k,[])
 |c::cs=>(k.val c).bind λ(k,x)=>(Wk.je k cs).bind λ(k,xs)=>some (k,x::xs)
def Wk.one(k:Wk):SV->Option (Wk×Lf)
 | .v false [c]=>k.val c
 |_=>none
def Wk.lQ(k:Wk)(id:Nat):Option Wk:=
 match k.get (.o id)with
 | .ob _ x=>some (k.set (.o id) (.fz .z x))
 | .fz _ _=>some k
 |_=>none
def Wk.flat(k:Wk)(id:Nat):Option Wk:=
 match k.get (.o id)with
 | .ob _ x=>some (k.set (.o id) (.ob false x))
 | .fz _ _=>some k
 |_=>none
def Wk.et(k:Wk):List Ce->Option Wk
 | []=>some k
 | .o id _::cs=>(k.lQ id).bind λk=>Wk.et k cs
 |_::cs=>Wk.et k cs
def fB:Ce->Bool
 | .n=>true
 |_=>false
def Wk.fC(k:Wk)(fz:Bool):List Ce->List Ce->Option (Wk×List Lf×Bool)
 | [],[]=>some (k,[],true)
 |z::zs,.p x::cs=>(Wk.fC k fz zs cs).bind λ(k,xs,dp)=>some (k,x::xs,dp&& !fB z)
 |z::zs,.n::cs=>(Wk.fC k fz zs cs).bind λ(k,xs,dp)=>some (k,.e::xs,dp)
 |z::zs,.o id []::cs=>
  match k.get (.o id)with
  | .fz _ x=>(Wk.fC k fz zs cs).bind λ(k,xs,dp)=>some (k,x::xs,false)
  | .ob d x=>
   bif fz then(Wk.fC (k.set (.o id) (.fz .z x)) fz zs cs).bind λ(k,xs,dp)=>some (k,x::xs,false)
   else bif d then(Wk.fC (k.set (.o id) .un) fz zs cs).bind λ(k,xs,dp)=>some (k,x::xs,dp)
   else(Wk.fC (k.set (.o id) (.fz .z x)) fz zs cs).bind λ(k,xs,dp)=>some (k,x::xs,false)
  |_=>none
 |_,_=>none
def Wk.dY(k:Wk):List Ce->List Ce->Option (Wk×List Lf)
 | [],[]=>some (k,[])
 |z::zs,.p x::cs=>bif fB z then none else(Wk.dY k zs cs).bind λ(k,xs)=>some (k,x::xs)
 |z::zs,.n::cs=>(Wk.dY k zs cs).bind λ(k,xs)=>some (k,.e::xs)
 |z::zs,.o id []::cs=>
  match k.get (.o id)with
  | .ob true x| .fl x=>(Wk.dY (k.set (.o id) .un) zs cs).bind λ(k,xs)=>some (k,x::xs)
  |_=>none
 |_,_=>none
def Wk.rq(k:Wk)(fz:Bool)(zs cs:List Ce):Option (Wk×List Lf×Bool):=
 match(bif fz then none else k.dY zs cs)with
 |some (k,xs)=>some (k,xs,true)
 |none=>k.fC true zs cs
def gk(cs:List Ce)(off:Nat)(vs:List Ce):List Ce:=cs.take off++vs++cs.drop (off+vs.length)
def Wk.row(k:Wk)(sc:Bool)(s ix:Lf)(w off:Nat):Nat->Wk×List Ce
 |0=>(k,[])
 |n+1=>
  let(k,y):=k.em (bif sc then .a_ w off else .cell w off) [s,ix]
  let(k,cs):=Wk.row k sc s ix w (off+1) n
  (k,.p y::cs)
def Wk.oY(k:Wk)(y ix:Lf)(id:Nat)(q:mJ)(w off:Nat):List Ce->Wk×List Ce
 | []=>(k,[])
 |z::zs=>
  bif fB z then
   let r:=Wk.oY (k.em (.dJ w off) [y,ix]).1 y ix id q w (off+1) zs
   (r.1,.o id (q++[(ix,w,off)])::r.2)
  else
   let r:=Wk.oY (k.em (.a_ w off) [y,ix]).1 y ix id q w (off+1) zs
   (r.1,.p (k.em (.a_ w off) [y,ix]).2::r.2)
def storeAt(cx:Cx)(k:Wk)(t:Nat)(ad v:SV):Option Wk:=
 (cx.ty t).bind λti=>(cellsOf v).bind λcs=>
 bif Nat.beq cs.length ti.sz then
  match ad with
  | .pt bx off=>
   match k.get (.x bx)with
   | .v ag xA=>bif Nat.ble (off+cs.length) xA.length then some (k.set (.x bx) (.v ag (gk xA off cs)))else none
   |_=>none
  | .ep id q ix w off=>
   bif Nat.beq (id%4) 2 then none else
   bif ti.zero.any fB then
    match q with
    | []=>(k.flat id).bind λk=>(k.et cs).bind λk=>(k.je cs).bind λ(k,xs)=>
     match k.get (.o id)with
     | .ob _ x=>
      let(k,y):=k.em (.put false w off xs.length) (x::ix::xs)
      some (k.set (.o id) (.ob false y))
     |_=>none
    |_=>none
   else(k.je cs).bind λ(k,xs)=>
    match k.get (.o id)with
    | .ob dp x=>
     bif dp||q.isEmpty then
      let(k,y):=k.down x q
      let(k,y):=k.em (.put true w off xs.length) (y::ix::xs)
      let(k,y):=k.up x y q
      some (k.set (.o id) (.ob dp y))
     else none
    |_=>none
  |_=>none
 else none
def Ix(cx:Cx)(k:Wk)(t:Nat)(ad v:SV):Option Wk:=
 match ad with
 | .ep id [] ix w off=>
  (cx.ty t).bind λti=>(cellsOf v).bind λcs=>
  bif Nat.beq cs.length ti.sz&&ti.zero.any fB&&Nat.beq (id%4) 0 then
   match k.get (.o id)with
   | .ob true x=>(k.dY ti.zero cs).bind λ(k2,xs)=>
    match k2.get (.o id)with
    | .ob true _=>
     let(k3,y):=k2.em (.gj (ti.zero.map λz=>!fB z) w off) (x::ix::xs)
     some (k3.set (.o id) (.ob true y))
    |_=>none
   |_=>none
  else none
 |_=>none
def loadAt(cx:Cx)(nest:Bool)(k:Wk)(t:Nat):SV->Option (Wk×SV)
 | .pt bx off=>(cx.ty t).bind λti=>
  match k.get (.x bx)with
  | .v _ cs=>bif Nat.ble (off+ti.sz) cs.length then some (k,.v ti.ag ((cs.drop off).take ti.sz))else none
  |_=>none
 | .fp s ix w off=>(cx.ty t).bind λti=>
  let(k,cs):=k.row false s ix w off ti.sz
  some (k,.v ti.ag cs)
 | .ep id q ix w off=>(cx.ty t).bind λti=>
  match k.get (.o id)with
  | .ob true x=>
   bif nest&&ti.zero.any fB&&Nat.beq ti.zero.length ti.sz&&Nat.beq (id%2) 1 then
    let(k,y):=k.down x q
    let(k,cs):=k.oY y ix id q w off ti.zero
    some (k,.v ti.ag cs)
   else bif ti.zero.any fB then
    match q with
    | []=>bif Nat.beq (id%2) 0 then
      let(k,cs):=k.row false x ix w off ti.sz
      some (k,.v ti.ag cs)
     else(k.flat id).bind λk=>
     let(k,cs):=k.row false x ix w off ti.sz
     some (k,.v ti.ag cs)
    |_=>none
   else
    let(k,y):=k.down x q
    let(k,cs):=k.row true y ix w off ti.sz
    some (k,.v ti.ag cs)
  | .ob false x| .fz _ x=>
   match q with
   | []=>
    let(k,cs):=k.row false x ix w off ti.sz
    some (k,.v ti.ag cs)
   |_=>none
  |_=>none
 |_=>none
def nx(i:Nat):Nat:=i+(1-i%2)
def eT(i:Nat):Nat:=i+(4-i%4)%4
def mK(i:Nat):Nat:=i+(6-i%4)%4
theorem Iy(i:Nat):i<=nx i:=by unfold nx;omega
theorem zP(i:Nat):i<=eT i:=by unfold eT;omega
theorem Qc(i:Nat):i<=mK i:=by unfold mK;omega
theorem Qd(i:Nat):mK i%4=2:=by unfold mK;omega
def Hv:Lf->Bool
 | .k (.int _ n)=>decide (n=0)
 |_=>false
def Wk.mg(k:Wk)(y ix:Lf)(j:Nat)(w off:Nat):List Ce->Wk×List Ce×Lf
 | []=>(k,[],.e)
 |z::zs=>
  bif fB z then
   let r:=Wk.mg (k.em (.dJ w off) [y,ix]).1 y ix j w (off+1) zs
   (r.1,.o j []::r.2.1,(k.em (.dJ w off) [y,ix]).2)
  else
   let r:=Wk.mg (k.em (.a_ w off) [y,ix]).1 y ix j w (off+1) zs
   (r.1,.p (k.em (.a_ w off) [y,ix]).2::r.2.1,r.2.2)
def Iz(cx:Cx)(k:Wk)(t:Nat):SV->Option (Wk×SV)
 | .ep id [] ix w off=>(cx.ty t).bind λti=>
  match k.get (.o id)with
  | .fz (.w tk x0 lo) x=>
   match k.get (.o tk)with
   | .tk y0 m=>
    bif Hv lo&&x0.beq y0&&Nat.beq (ti.zero.filter fB).length 1&&Nat.beq ti.zero.length ti.sz then
     let j:=mK k.ct.i
     let r:=k.mg x ix j w off ti.zero
     let q:=r.1.em .xw [m,ix]
     some ({((q.1.set (.o tk) (.tk y0 q.2)).set (.o j) (.fl r.2.2))with ct:=⟨q.1.ct.a,j+1⟩},.v ti.ag r.2.1)
    else none
   |_=>none
  |_=>none
 |_=>none
def indexAt(cx:Cx)(k:Wk)(t:Nat)(s ix:SV):Option (Wk×SV):=
 (cx.ty t).bind λti=>(cx.ty ti.el).bind λte=>
 bif Nat.beq ti.kd 3 then
  (k.one ix).bind λ(k,i)=>
   match s with
   | .v false [.p x]=>
    let(k,_):=k.em .bW [x,i]
    some (k,.fp x i te.sz 0)
   | .v false [.o id q]=>
    match k.get (.o id),q with
    | .ob true x,q=>
     let(k,y):=k.down x q
     let(k,_):=k.em .bW [y,i]
     some (k,.ep id q i te.sz 0)
    | .ob false x,[]=>
     let(k,_):=k.em .bW [x,i]
     some (k,.ep id [] i te.sz 0)
    | .fz (.w tk x0 lo) x,[]=>
     let(k,_):=k.em .bW [x,i]
     bif Hv lo then some (k,.ep id [] i te.sz 0)else some (k,.fp x i te.sz 0)
    | .fz _ x,[]=>
     let(k,_):=k.em .bW [x,i]
     some (k,.fp x i te.sz 0)
    |_,_=>none
   |_=>none
 else none
def fieldAt(cx:Cx)(t f:Nat):SV->Option SV
 | .pt bx off=>(cx.ty t).bind λti=>(ti.fs[f]?).bind λo=>some (.pt bx (off+o.1))
 | .ep id q ix w off=>(cx.ty t).bind λti=>(ti.fs[f]?).bind λo=>some (.ep id q ix w (off+o.1))
 | .fp s ix w off=>(cx.ty t).bind λti=>(ti.fs[f]?).bind λo=>some (.fp s ix w (off+o.1))
 |_=>none
def Wk.args(k:Wk):List SV->List PS->Option (Wk×List Lf×List (Nat×Bool×Nat))
 | [],[]=>some (k,[],[])
 | .v ag cs::vs,.v wx n::ps=>
  bif (ag==wx)&&Nat.beq cs.length n then
   (k.je cs).bind λ(k,xs)=>(Wk.args k vs ps).bind λ(k,ys,bs)=>some (k,xs++ys,bs)
  else none
 | .pt bx 0::vs,.x n::ps=>
  match k.get (.x bx)with
  | .v ag cs=>
   bif Nat.beq cs.length n then
    (k.et cs).bind λk=>(k.je cs).bind λ(k,xs)=>(Wk.args k vs ps).bind λ(k,ys,bs)=>some (k,xs++ys,(bx,ag,n)::bs)
   else none
  |_=>none
 |_,_=>none
def Dn:SV->List Ce
 | .v _ cs=>cs
 |_=>[]
def ve:List SV->List Ce
 | []=>[]
 |v::vs=>Dn v++ve vs
def pC(sg:nw):Bool:=sg.rs.any (λr=>r.2.any λ | .p| .o false=>true|_=>false)||sg.ps.any λ | .x _=>true|_=>false
def fD:Ct->List Ck->Ct×List Ce×St
 |ct,[]=>(ct,[],[])
 |ct,.o dp::ks=>
  let r:=fD ⟨ct.a+1,nx ct.i+1⟩ ks
  (r.1,.o (nx ct.i) []::r.2.1,(.o (nx ct.i),.ob dp (.a ct.a))::r.2.2)
 |ct,_::ks=>
  let r:=fD ⟨ct.a+1,ct.i⟩ ks
  (r.1,.p (.a ct.a)::r.2.1,r.2.2)
def nK:Ct->List (Bool×List Ck)->Ct×List (Bool×List Ce)×St
 |ct,[]=>(ct,[],[])
 |ct,r::rs=>
  let x:=fD ct r.2
  let y:=nK x.1 rs
  (y.1,(r.1,x.2.1)::y.2.1,x.2.2++y.2.2)
def CJ(a:Nat):Nat->List Ce
 |0=>[]
 |n+1=>.p (.a a)::CJ (a+1) n
def s6:Nat->List (Nat×Bool×Nat)->Nat×St
 |a,[]=>(a,[])
 |a,(bx,ag,n)::bs=>
  let r:=s6 (a+n) bs
  (r.1,(.x bx,.v ag (CJ a n))::r.2)
def s7:List (Bool×List Ce)->SV
 | []=>.un
 | [v]=>.v v.1 v.2
 |vs=>.tp vs
def vg:List Nat->Bool
 | []=>true
 |x::xs=>!(xs.any (Nat.beq x))&&vg xs
def Qe(k:Wk)(d:Nat)(dst:Option Nat)(g:Nat)(sg:nw)(vs:List SV):Option Wk:=
 (bif pC sg then k.et (ve vs)else some k).bind λk=>
 (k.args vs sg.ps).bind λ(k,xs,bs)=>
 bif vg (bs.map (·.1))then
  let r:=nK k.ct sg.rs
  let b:=s6 r.1.a bs
  let dw:St:=match dst with|some n=>[(.t d n,s7 r.2.1)]|none=>[]
  some {r:=k.r,w:=(dw++(r.2.2++b.2))++k.w,ct:=⟨b.1,r.1.i⟩,is:=.cl g xs (b.1-k.ct.a)::k.is}
 else none
def xB(cs:List Ce):List (Nat×List Ce)->Option (List Ce)
 | []=>some cs
 |(off,vs)::ps=>bif Nat.ble (off+vs.length) cs.length then xB (gk cs off vs) ps else none
def parts(d:Nat)(s:bn->SV)(fs:List (Nat×Nat)):List (Nat×Operand)->Option (List (Nat×List Ce))
 | []=>some []
 |(f,x)::ps=>(fs[f]?).bind λo=>(cellsOf (ch d s x)).bind λcs=>bif Nat.beq cs.length o.2 then(parts d s fs ps).bind λl=>some ((o.1,cs)::l)else none
def lR:Ce->Nat
 | .p (.k (.int _ _))=>1
 | .p (.k (.string _))=>2
 | .p (.k (.bool _))=>4
 |_=>0
def Qf(k:Wk)(op:BinOp)(ks:List Nat)(xs ys:List Ce):Option (Wk×Lf):=
 (k.je xs).bind λ(k,xs)=>(k.je ys).bind λ(k,ys)=>
  let(k,r):=k.em (.s5 ks) (xs++ys)
  match op with
  | .eql=>some (k,r)
  | .neq=>some (k.em (.un .not) [r])
  |_=>none
def mU(zs:List Ce):Nat->List Ce
 |0=>[]
 |n+1=>zs++mU zs n
def IA(k:Wk):SV->Option (Wk×Lf×Bool)
 | .v false [.n]=>some (k,.e,true)
 | .v false [.o id []]=>
  match k.get (.o id)with
  | .ob dp x=>bif Nat.beq (id%4) 2 then none else some (k.set (.o id) .un,x,dp)
  |_=>none
 |_=>none
def Wk.gm(k:Wk):SV->Option Wk
 | .v false [.o j []]=>
  match k.get (.o j)with
  | .fz (.w tk x0 lo) y=>
   match k.get (.o tk)with
   | .tk y0 m=>bif x0.beq y0&&Nat.beq (j%4) 0 then
     let r:=k.em .ko [m,lo,y]
     some ((r.1.set (.o tk) (.tk y0 r.2)).set (.o j) (.fr y))
    else none
   |_=>none
  |_=>none
 |_=>none
def Wk.vh(k:Wk)(b:Bool)(v:SV):Wk:=
 match(bif b then k.gm v else none)with
 |some k'=>k'
 |none=>k
def zQ(sl fz:Bool)(k:Wk):SV->Option (Wk×Lf×Bool)
 | .v false [.n]=>some (k,.e,true)
 | .v false [.p x]=>some (k,x,!sl)
 | .v false [.o id q]=>
  bif sl then
   match k.get (.o id),q with
   | .ob dp x,[]=>bif dp&& !fz then some (k.set (.o id) .un,x,true)else some (k.set (.o id) (.ob false x),x,false)
   | .fz _ x,[]=>some (k,x,false)
   | .fr x,[]=>bif fz then none else some (k.set (.o id) .un,x,true)
   |_,_=>none
  else(k.val (.o id q)).bind λr=>some (r.1,r.2,true)
 |_=>none
def zR(cx:Cx)(k:Wk)(t:Nat)(x:SV)(lo hi:Option SV):Option (Wk×SV):=
 match x with
 | .v false [.o id []]=>
  match k.get (.o id)with
  | .fz (.w tk x0 l0) y=>
   (cx.ty t).bind λti=>(cx.ty ti.el).bind λte=>
   bif Nat.beq ti.kd 3&&Hv l0 then
    (match lo with
     |none=>some (k,[])
     |some l=>(k.one l).bind λ(k,l)=>some (k,[l])).bind λ(k,ls)=>
    (match hi with
     |none=>some (k,[])
     |some h=>(k.one h).bind λ(k,h)=>some (k,[h])).bind λ(k,hs)=>
    let r:=k.em (.sub te.sz lo.isSome hi.isSome) (y::(ls++hs))
    let j:=eT k.ct.i
    some ({(r.1.set (.o j) (.fz (.w tk x0 (ls.headD (.k (.int .i64 0)))) r.2))with ct:=⟨r.1.ct.a,j+1⟩},.v false [.o j []])
   else none
  |_=>none
 |_=>none
def iI(cx:Cx)(cC eW:Nat)(d:Nat)(o:Oper)(oi:Nat)(k:Wk):Option Wk:=
 let put (k:Wk) (v:SV):Wk:=match o.dst with|some n=>k.set (.t d n) v|none=>k
 let one (x:Operand):SV:=ch d k.get x
 let lf (r:Wk×Lf):Option Wk:=some (put r.1 (.v false [.p r.2]))
 match o.op with
 | .move x| .assign x=>some (put k (one x))
 | .alloc t=>(cx.ty t).bind λti=>some (put {(k.set (.x k.ct.i) (.v ti.ag ti.zero))with ct:=⟨k.ct.a,k.ct.i+1⟩} (.pt k.ct.i 0))
 | .box t x=>(cx.ty t).bind λti=>(cellsOf (one x)).bind λcs=>
   bif Nat.beq cs.length ti.sz then some (put {(k.set (.x k.ct.i) (.v ti.ag cs))with ct:=⟨k.ct.a,k.ct.i+1⟩} (.pt k.ct.i 0))else none
 | .build t ps=>(cx.ty t).bind λti=>bif ti.ag then(parts d k.get ti.fs ps.toList).bind λl=>(xB ti.zero l).bind λcs=>some (put k (.v true cs))else none
 | .buildSlice t n ps=>(cx.ty t).bind λti=>(cx.ty ti.el).bind λte=>bif Nat.beq ti.kd 3&&Nat.ble (n*te.sz) 65536&&Nat.blt 0 te.sz then
   (parts d k.get ((List.range n).map λi=>(i*te.sz,te.sz)) ps.toList).bind λl=>(xB (mU te.zero n) l).bind λcs=>
    (k.rq (cx.fz cC eW oi) (mU te.zero n) cs).bind λ(k,xs,dp)=>
     let(k,y):=k.em (.lit te.sz (bif dp then(mU te.zero n).map (λz=>!fB z)else [])) xs
     let id:=eT k.ct.i
     some (put {(k.set (.o id) (.ob dp y))with ct:=⟨k.ct.a,id+1⟩} (.v false [.o id []]))
   else none
 | .makeSlice t l c=>(cx.ty t).bind λti=>(cx.ty ti.el).bind λte=>(k.one (one l)).bind λ(k,n)=>(k.one (one c)).bind λ(k,m)=>
   (k.je te.zero).bind λ(k,zs)=>bif Nat.beq ti.kd 3&&Nat.ble te.bytes 65536&&Nat.blt 0 te.sz then
    let(k,y):=k.em .mk (n::m::zs)
    let id:=eT k.ct.i
    some (put {(k.set (.o id) (.ob true y))with ct:=⟨k.ct.a,id+1⟩} (.v false [.o id []]))
   else none
 | .load t a=>(match(bif cx.fz cC eW oi then Iz cx k t (one a)else none)with|some r=>some r|none=>loadAt cx (cx.nest cC) k t (one a)).bind λ(k,v)=>some (put k v)
 | .store t a x=>(match(bif cx.fz cC eW oi then none else Ix cx k t (one a) (one x))with|some k=>some k|none=>storeAt cx k t (one a) (one x)).bind λk=>some (put k .un)
 | .nilCheck x=>match one x with
   | .pt bx off=>some (put k (.pt bx off))
   | .ep id q ix w off=>some (put k (.ep id q ix w off))
   | .fp s ix w off=>some (put k (.fp s ix w off))
   |_=>none
 | .binOp op t x y _=>match one x,one y with
   | .v false [a],.v false [b]=>(cx.ty t).bind λti=>(k.val a).bind λ(k,a)=>(k.val b).bind λ(k,b)=>
     bif Nat.beq ti.kd 4 then lf (k.em (.bb op) [a,b])
     else bif Nat.beq ti.kd 1||Nat.beq ti.kd 2 then lf (k.em (.bin op) [a,b])else none
   | .v true es,.v true bs=>(cx.ty t).bind λti=>bif Nat.beq ti.kd 5&&Nat.beq es.length ti.sz then(Qf k op (ti.zero.map lR) es bs).bind lf else none
   |_,_=>none
 | .unOp op _ x=>(k.one (one x)).bind λ(k,a)=>lf (k.em (.un op) [a])
 | .convert s t x=>(cx.ty s).bind λsi=>(cx.ty t).bind λti=>(k.one (one x)).bind λ(k,a)=>
   match ti.zero with
   | [.p (.k (.int kk _))]=>bif Nat.beq ti.kd 1&&Nat.beq si.kd 1 then lf (k.em (.cnv kk) [a])else none
   | [.p (.k (.string _))]=>bif Nat.beq ti.kd 2&&Nat.beq si.kd 3 then(cx.ty si.el).bind λte=>
     match te.zero with
     | [.p (.k (.int .u8 _))]=>bif Nat.beq te.kd 1 then lf (k.em .str [a])else none
     |_=>none
    else none
   |_=>none
 | .slice t x lo hi mx=>match(bif mx.isSome then none else zR cx k t (one x) (lo.map one) (hi.map one))with
  |some (k,v)=>some (put k v)
  |none=>(cx.ty t).bind λti=>(k.et (Dn (one x))).bind λk=>(k.one (one x)).bind λ(k,a)=>
   match mx with
   |some _=>none
   |none=>
   (match lo with
    |none=>some (k,[])
    |some l=>(k.one (one l)).bind λ(k,l)=>some (k,[l])).bind λ(k,ls)=>
   (match hi with
    |none=>some (k,[])
    |some h=>(k.one (one h)).bind λ(k,h)=>some (k,[h])).bind λ(k,hs)=>
   bif Nat.beq ti.kd 3 then(cx.ty ti.el).bind λte=>lf (k.em (.sub te.sz lo.isSome hi.isSome) (a::(ls++hs)))
   else bif Nat.beq ti.kd 2 then lf (k.em (.zM lo.isSome hi.isSome) (a::(ls++hs)))else none
 | .fieldAddr t x f=>(fieldAt cx t f (one x)).bind λv=>some (put k v)
 | .indexAddr t x i=>(indexAt cx k t (one x) (one i)).bind λ(k,v)=>some (put k v)
 | .index t x i=>(cx.ty t).bind λti=>(k.one (one x)).bind λ(k,a)=>(k.one (one i)).bind λ(k,i)=>
   bif Nat.beq ti.kd 2 then lf (k.em .idx [a,i])else none
 | .extract x i=>match one x with
   | .tp vs=>(vs[i]?).bind λv=>some (put k (.v v.1 v.2))
   |_=>none
 | .makeFunc (.func f) first xC=>bif first.isEmpty then
   (xC.toList.mapM λx=>match one x with| .pt b 0=>some b|_=>none).bind λbs=>some (put k (.cl f bs))else none
 | .call c=>match c.callee,c.args.toList with
   | .builtin .len,[x]=>((c.argTypes[0]?).bind cx.ty).bind λti=>(k.one (one x)).bind λ(k,a)=>
     bif Nat.beq ti.kd 3 then lf (k.em .len [a])else bif Nat.beq ti.kd 2 then lf (k.em .lens [a])else none
   | .builtin .max,[x,y]=>(k.one (one x)).bind λ(k,a)=>(k.one (one y)).bind λ(k,b)=>lf (k.em .mx [a,b])
   | .builtin .min,[x,y]=>(k.one (one x)).bind λ(k,a)=>(k.one (one y)).bind λ(k,b)=>lf (k.em .mn [a,b])
   | .builtin .append,[x,y]=>match c.argTypes.toList with
    | [t,tx]=>(cx.ty t).bind λti=>(cx.ty tx).bind λtj=>(cx.ty ti.el).bind λte=>
     bif Nat.beq ti.kd 3&&Nat.beq tj.kd 3&&Nat.ble te.bytes 32768&&Nat.blt 0 te.sz then
     let sl:=te.zero.any fB
     (IA k (one x)).bind λ(k,a,dp)=>(zQ sl (cx.fz cC eW oi) (k.vh (sl&& !cx.fz cC eW oi) (one y)) (one y)).bind λ(k,b,uF)=>
     let(k,r):=k.em (.app (!sl) te.sz) [a,b]
     let id:=eT k.ct.i
     some (put {(k.set (.o id) (.ob (dp&&uF) r))with ct:=⟨k.ct.a,id+1⟩} (.v false [.o id []]))
     else none
    |_=>none
   | .value (.func g),xs=>(cx.sg g).bind λsg=>Qe k d o.dst g sg (xs.map one)
   |_,_=>none
 |_=>none
def Dp:List Ce->List bn
 | []=>[]
 | .o id _::cs=>.o id::Dp cs
 |_::cs=>Dp cs
def adR:SV->List bn
 | .v _ cs=>Dp cs
 | .pt bx _=>[.x bx]
 | .ep id _ _ _ _=>[.o id]
 | .cl _ bs=>bs.map .x
 | .tp vs=>vs.flatMap λv=>Dp v.2
 | .fz (.w tk _ _) _=>[.o tk]
 |_=>[]
def vi(o:Oper):List Nat:=o.op.operands.toList.filterMap λ | .tmp t=>some t|_=>none
def deep(s:St):List bn->List bn
 | []=>[]
 |r::rs=>adR (s.get r)++deep s rs
def adS:Op->Bool
 | .move _| .assign _| .fieldAddr .. | .build .. | .box .. | .makeFunc .. | .nilCheck _| .alloc _| .extract ..=>false
 |_=>true
def adT:Op->Bool
 | .load .. | .call _=>true
 |_=>false
def IB:List bn->List bn
 | []=>[]
 | .o n::rs=>.o n::IB rs
 |_::rs=>IB rs
def IC:List bn->List bn
 | []=>[]
 | .x n::rs=>.x n::IC rs
 |_::rs=>IC rs
def Dq(d:Nat)(s:St)(o:Oper):List bn:=
 let ts:=(vi o).map (bn.t d)
 bif adS o.op then
  let m:=deep s ts
  let b:=deep s (IC m)
  ts++m++b++bif adT o.op then deep s (IB (m++b))else []
 else ts
def St.only(s:St):List bn->St
 | []=>[]
 |r::rs=>(r,s.get r)::St.only s rs
def St.fe(s:St):St->St
 | []=>s
 |(r,v)::w=>(St.fe s w).set r v
structure Tr where
 rd:List bn
 wr:List bn
def Dr(xs ys:List bn):Bool:=xs.any λx=>ys.any x.beq
def Ds(a b:Tr):Bool:=!Dr a.wr b.rd&& !Dr a.wr b.wr&& !Dr a.rd b.wr
def lZ:List Nat->List Oper->List Nat
 |acc,[]=>acc
 |acc,o::os=>lZ (acc++[o.after.toList.foldl (λs e=>bif Region.binds .any e&&Nat.blt e.on acc.length then s|||(2^e.on)|||(acc.getD e.on 0)else s) 0]) os
def xD:Nat->List Oper->Bool
 |_,[]=>true
 |i,o::os=>o.after.toList.all (λe=>!Region.binds .any e||Nat.blt e.on i)&&xD (i+1) os
def wy(nt:Nat):Code->Bool
 | .region _ ops _=>ops.toList.all λo=>match o.dst with|some n=>Nat.blt n nt|none=>true
 | .seq a b=>wy nt a&&wy nt b
 | .cond _ a b=>wy nt a&&wy nt b
 | .block _ a=>wy nt a
 | .loop a=>wy nt a
 | .scope a=>wy nt a
 |_=>true
def Dt(bj:Nat)(t:Tr):Nat->List Tr->Bool
 |_,[]=>true
 |i,u::us=>(Nat.testBit bj i||Ds u t)&&Dt bj t (i+1) us
def zS:List Tr->List Tr->List Nat->Bool
 |done,t::ts,b::bs=>Dt b t 0 done&&zS (done++[t]) ts bs
 |_,_,_=>true
def ID(s:SV):Option Lf:=
 match s with
 | .v false [.p x]=>some x
 |_=>none
inductive Dec where
 |nil
 |is (b:Bool)
 |ask (n:Nat)
 |no
def qC(fs:jF)(s:SV):Dec:=
 match s with
 | .tp _=>.nil
 |s=>
 match ID s with
 |some (.k (.bool b))=>.is b
 |some (.a n)=>match fact fs n with
  |some b=>.is b
  |none=>.ask n
 |_=>.no
def wrap:List Dm->PL->PL
 | [],k=>k
 |i::is,k=>wrap is (.ins i k)
abbrev KP:=Nat->St->Ct->jF->Option PL
def Du(cx:Cx)(d:Nat)(s:St)(o:Oper):Option (Nat×List SV):=
 match o.op with
 | .call c=>match c.callee with
  | .value x=>match ch d s.get x with
   | .cl g bs=>match cx.sg g with
    |some _=>none
    |none=>some (g,c.args.toList.map (ch d s.get)++bs.map λb=>.pt b 0)
   |_=>none
  |_=>none
 |_=>none
abbrev mV:=Nat->Nat->List SV->Nat->St->Ct->jF->(List SV->KP)->Option PL
def uG:List SV->Option (List (Bool×List Ce))
 | []=>some []
 | .v ag cs::vs=>(uG vs).bind λl=>some ((ag,cs)::l)
 |_=>none
def qo:List Dm->Nat
 | []=>0
 | .pr _ _::is=>qo is+1
 | .cl _ _ m::is=>qo is+m
def Lf.iZ(a:Nat):Lf->Bool
 | .a n=>Nat.blt n a
 |_=>true
def ru:Nat->List Dm->Bool
 |_,[]=>true
 |e,.pr _ xs::is=>Nat.blt 0 e&&xs.all (Lf.iZ (e-1))&&ru (e-1) is
 |e,.cl _ xs m::is=>Nat.ble m e&&xs.all (Lf.iZ (e-m))&&ru (e-m) is
def zk(d:Nat)(ops:Array Oper)(o:Oper):List bn:=
 match o.guard with
 |none=>[]
 |some (j,_)=>match(ops[j]?).bind (·.dst)with
  |some g=>[.t d g]
  |none=>[]
def vj(d:Nat)(s:St)(o:Oper)(fs:jF):Option (Dec×SV×SV):=
 match o.op with
 | .pick c a b=>some (qC fs (ch d s.get c),ch d s.get a,ch d s.get b)
 |_=>none
abbrev Rec:=List Tr->Nat->St->Ct->jF->Option PL
def Dv(d:Nat)(ops:Array Oper)(o:Oper)(rc:Rec)(tr:List Tr)(lv:Nat)(s:St)(ct:Ct)(fs:jF):Option PL:=
 match o.dst with
 |some n=>rc (tr++[⟨zk d ops o,[.t d n]⟩]) lv (s.set (.t d n) (.tp [])) ct fs
 |none=>rc (tr++[⟨zk d ops o,[]⟩]) lv s ct fs
def xE(d:Nat)(ops:Array Oper)(o:Oper)(rc:Rec)(tr:List Tr)(lv:Nat)(s:St)(ct:Ct)(fs:jF)(v:SV):Option PL:=
 match o.dst with
 |some n=>rc (tr++[⟨zk d ops o++(vi o).map (bn.t d),[.t d n]⟩]) lv (s.set (.t d n) v) ct fs
 |none=>none
def Dw(d:Nat)(o:Oper)(rc:Rec)(tr:List Tr):List SV->KP:=λrs lv s ct fs=>
 match o.dst,rs with
 |none,_=>rc tr lv s ct fs
 |some n,[v]=>rc tr lv (s.set (.t d n) v) ct fs
 |some n,[]=>rc tr lv (s.set (.t d n) .un) ct fs
 |some n,rs=>(uG rs).bind λvs=>rc tr lv (s.set (.t d n) (.tp vs)) ct fs
def doO(cx:Cx)(cR:mV)(cC eW d:Nat)(ops:Array Oper)(draw:Bool)(o:Oper)(i:Nat)(rc:Rec)(tr:List Tr)(lv:Nat)(s:St)(ct:Ct)(fs:jF):Option PL:=
 match vj d s o fs with
 |some (dc,a,b)=>
  match dc with
  | .is true=>xE d ops o rc tr lv s ct fs a
  | .is false=>xE d ops o rc tr lv s ct fs b
  | .ask n=>(xE d ops o rc tr lv s ct ((n,true)::fs) a).bind λx=>(xE d ops o rc tr lv s ct ((n,false)::fs) b).bind λy=>some (.ite n x y)
  | .nil| .no=>some (.qR (cC*100000000+2000000+eW*1000+i) [s])
 |none=>
  match Du cx d s o with
  |some (g,vs)=>
   bif draw then some (.qR (cC*100000000+4000000+eW*1000+i) [s])else
   cR (d+1) g vs lv s ct fs (Dw d o rc tr)
  |none=>
   match iI cx cC eW d o i ⟨s.only (Dq d s o),[],ct,[]⟩with
   |none=>some (.qR (cC*100000000+1000000+eW*1000+i) [s.only (Dq d s o)])
   |some k=>
    bif Nat.beq k.ct.a (ct.a+qo k.is)&&Nat.ble ct.i k.ct.i&&ru k.ct.a k.is then
     (rc (tr++[⟨zk d ops o++Dq d s o,k.w.map (·.1)⟩]) lv (s.fe k.w) k.ct fs).bind λp=>some (wrap k.is p)
    else none
def zU(cx:Cx)(cR:mV)(cC eW d:Nat)(ops:Array Oper)(draw:Bool)(o:Oper)(i:Nat)(rc:Rec)(tr:List Tr)(lv:Nat)(s:St)(ct:Ct)(fs:jF):Option PL:=
 let run:=doO cx cR cC eW d ops draw o i rc tr lv s ct
 let skip:=Dv d ops o rc tr lv s ct
 match o.guard with
 |none=>run fs
 |some (j,iv)=>
  match(ops[j]?).bind (·.dst)with
  |none=>none
  |some g=>
   match qC fs (s.get (.t d g))with
   | .nil=>skip fs
   | .is b=>bif b==iv then run fs else skip fs
   | .ask n=>(bif true==iv then run ((n,true)::fs)else skip ((n,true)::fs)).bind λx=>
     (bif false==iv then run ((n,false)::fs)else skip ((n,false)::fs)).bind λy=>some (.ite n x y)
   | .no=>some (.qR (cC*100000000+3000000+eW*1000+i) [s])
def Dx(cx:Cx)(cR:mV)(cC eW d:Nat)(ops:Array Oper)(draw:Bool)(fin:List Tr->KP):
  List Oper->Nat->Rec
 | [],_=>fin
 |o::os,i=>zU cx cR cC eW d ops draw o i (Dx cx cR cC eW d ops draw fin os (i+1))
inductive Ex where
 |normal
 |exit (id:Nat)
 |ret
def vk:mJ->mJ->Bool
 | [],[]=>true
 |(x,w,j)::p,(x',w',j')::q=>x.beq x'&&Nat.beq w w'&&Nat.beq j j'&&vk p q
 |_,_=>false
def Ce.beq:Ce->Ce->Bool
 | .p x,.p y=>x.beq y
 | .o i s,.o j t=>Nat.beq i j&&vk s t
 | .n,.n=>true
 | .d,.d=>true
 |_,_=>false
def vl:List Ce->List Ce->Bool
 | [],[]=>true
 |c::cs,e::es=>c.beq e&&vl cs es
 |_,_=>false
def xF:List Nat->List Nat->Bool
 | [],[]=>true
 |c::cs,e::es=>Nat.beq c e&&xF cs es
 |_,_=>false
def xG:List (Bool×List Ce)->List (Bool×List Ce)->Bool
 | [],[]=>true
 |(a,cs)::vs,(b,es)::us=>(a==b)&&vl cs es&&xG vs us
 |_,_=>false
def Pv.beq:Pv->Pv->Bool
 | .z,.z=>true
 | .w t x l,.w u y m=>Nat.beq t u&&x.beq y&&l.beq m
 |_,_=>false
def SV.beq:SV->SV->Bool
 | .un,_=>true
 | .v a cs,.v b es=>(a==b)&&vl cs es
 | .pt a b,.pt c d=>Nat.beq a c&&Nat.beq b d
 | .ep i p x w j,.ep i' q x' w' j'=>Nat.beq i i'&&vk p q&&x.beq x'&&Nat.beq w w'&&Nat.beq j j'
 | .fp s x w j,.fp s' x' w' j'=>s.beq s'&&x.beq x'&&Nat.beq w w'&&Nat.beq j j'
 | .tp vs,.tp us=>xG vs us
 | .cl f bs,.cl g cs=>Nat.beq f g&&xF bs cs
 | .ob a x,.ob b y=>(a==b)&&x.beq y
 | .fz p x,.fz q y=>p.beq q&&x.beq y
 | .tk x m,.tk y n=>x.beq y&&m.beq n
 | .fl x,.fl y=>x.beq y
 | .fr x,.fr y=>x.beq y
 |_,_=>false
def zV(d:Nat)(s:St)(n:Nat)(bx:Bool):bn:=
 bif bx then match s.get (.t d n)with| .pt b _=>.x b|_=>.t d n else .t d n
def IE(d:Nat)(s:St)(r:bn):Js->Bool
 | []=>false
 |(_,_,.rows _)::js=>IE d s r js
 |(n,bx,_)::js=>(zV d s n bx).beq r||IE d s r js
def zW:Ct->List Ce->List Cj->Ct×List Ce×St×List Nat
 |ct,_,[]=>(ct,[],[],[])
 |ct,cs,j::js=>
  let c:=cs.headD .d
  match j with
  | .k=>let(ct,es,w,ds):=zW ct cs.tail js;(ct,c::es,w,ds)
  | .p=>let(gI,es,w,ds):=zW ⟨ct.a+1,ct.i⟩ cs.tail js;(gI,.p (.a ct.a)::es,w,ds)
  | .o dp=>
   let(gI,es,w,ds):=zW ⟨ct.a+1,eT ct.i+1⟩ cs.tail js
   (gI,.o (eT ct.i) []::es,(.o (eT ct.i),.ob dp (.a ct.a))::w,match c with| .o id _=>id::ds|_=>ds)
  | .d=>let(ct,es,w,ds):=zW ct cs.tail js;(ct,.d::es,w,match c with| .o id _=>id::ds|_=>ds)
def Qg:SV->Option Nat
 | .fz (.w t _ _) _=>some t
 |_=>none
def zX(s:St)(cs:List Ce):Ct->List (Nat×Bool)->Ct×St×List Nat
 |ct,[]=>(ct,[],[])
 |ct,(j,dp)::js=>
  match cs[j]? with
  |some (.o id _)=>
   match Qg (s.get (.o id))with
   |some t=>
    match s.get (.o t)with
    | .tk x _=>let(gI,w,ds):=zX s cs ⟨ct.a+1,ct.i⟩ js;(gI,(.o t,.tk x (.a ct.a))::w,t::ds)
    |_=>zX s cs ct js
   |none=>let(gI,w,ds):=zX s cs ⟨ct.a+1,ct.i⟩ js;(gI,(.o id,.ob dp (.a ct.a))::w,id::ds)
  |_=>zX s cs ct js
def oZ:SV->List Ce
 | .v _ cs=>cs
 |_=>[]
def Dy(d:Nat)(s:St):Ct->Js->Ct×St×St×List Nat
 |ct,[]=>(ct,[],[],[])
 |ct,(_,_,.drop)::js=>Dy d s ct js
 |ct,(n,bx,.aI ag cj)::js=>
  let r:=zV d s n bx
  let(ct,es,w,ds):=zW ct (oZ (s.get r)) cj
  let(ct,ps,ws,dds):=Dy d s ct js
  (ct,(r,.v ag es)::ps,w++ws,ds++dds)
 |ct,(n,bx,.rows rj)::js=>
  let(ct,w,ds):=zX s (oZ (s.get (zV d s n bx))) ct rj
  let(ct,ps,ws,dds):=Dy d s ct js
  (ct,ps,w++ws,ds++dds)
def IF(d:Nat)(s0:St)(js:Js)(ds:List Nat):St->St
 | []=>[]
 |(r,v)::s=>
  let gone:=match r with| .o id=>ds.any (Nat.beq id)|_=>false
  bif IE d s0 r js||gone then IF d s0 js ds s else(r,v)::IF d s0 js ds s
structure Head where
 s0:St
 kept:St
 new:St
 own:St
 c0:Ct
 ct:Ct
 js:Js
def Head.st(h:Head):St:=h.kept++h.own++h.new
def Dz(s:St):List Ce->List Cj->List (Nat×Bool)
 | .o id []::cs,.p::js=>(id,true)::Dz s cs js
 | .o id []::cs,.o false::js=>(id,false)::Dz s cs js
 |_::cs,_::js=>Dz s cs js
 |_,_=>[]
def DA(cs:List Ce):List (Nat×Bool)->List (Nat×Bool)
 | []=>[]
 |(j,dp)::js=>
  match cs[j]? with
  |some (.o id _)=>bif dp then DA cs js else(id,false)::DA cs js
  |_=>DA cs js
def vm(d:Nat)(s0 s:St):Js->List (Nat×Bool)
 | []=>[]
 |(_,_,.drop)::js=>vm d s0 s js
 |(n,bx,.aI _ cj)::js=>Dz s (oZ (s.get (zV d s0 n bx))) cj++vm d s0 s js
 |(n,bx,.rows rj)::js=>DA (oZ (s0.get (zV d s0 n bx))) rj++vm d s0 s js
def DB(s:St):List (Nat×Bool)->List Nat
 | []=>[]
 |(id,all)::l=>bif all then(match s.get (.o id)with| .ob _ _=>id::DB s l|_=>DB s l)else DB s l
def CK(d:Nat)(s:St)(ct:Ct)(js:Js):Head:=
 let(gI,ps,ws,ds):=Dy d s ct js
 {s0:=s,kept:=IF d s js (DB s (vm d s s js)++ds) s,new:=ps,own:=ws,c0:=ct,ct:=gI,js}
def s8(s:St):List (Nat×Bool)->St
 | []=>s
 |(id,all)::l=>
  match s.get (.o id)with
  | .ob _ x=>s8 (s.set (.o id) (bif all then .fz .z x else .ob false x)) l
  |_=>s8 s l
abbrev mL:=List (Nat×Option Nat)
def Qh(s:St):List Ce->List Ce->List Cj->Option (List Lf×mL)
 | [],[],[]=>some ([],[])
 |c::cs,h::hs,j::js=>
  (Qh s cs hs js).bind λ(xs,rn)=>
  match j with
  | .k| .d=>some (xs,rn)
  | .p=>match c with
   | .p x=>some (x::xs,rn)
   | .n=>some (.e::xs,rn)
   | .o id []=>match s.get (.o id)with
    | .fz _ x=>some (x::xs,rn)
    |_=>none
   |_=>none
  | .o dp=>match h with
   | .o i []=>match c with
    | .n=>some (.e::xs,(i,none)::rn)
    | .o id []=>match s.get (.o id)with
     | .ob _ x=>some (x::xs,(i,some id)::rn)
     |_=>none
    |_=>none
   |_=>none
 |_,_,_=>none
def zY(s0 s:St)(cs:List Ce):List (Nat×Bool)->Option (List Lf)
 | []=>some []
 |(j,dp)::js=>
  match cs[j]? with
  |some (.o id _)=>
   match Qg (s0.get (.o id))with
   |some t=>
    match s0.get (.o t)with
    | .tk _ _=>match s.get (.o t)with
     | .tk _ m=>(zY s0 s cs js).bind λxs=>some (m::xs)
     |_=>none
    |_=>zY s0 s cs js
   |none=>match s.get (.o id)with
    | .ob _ x=>(zY s0 s cs js).bind λxs=>some (x::xs)
    |_=>none
  |_=>zY s0 s cs js
def DC(d:Nat)(s0 s:St):St->Js->Option (List Lf×mL)
 |ps,(_,_,.drop)::js=>DC d s0 s ps js
 |(r',.v ag hs)::ps,(n,bx,.aI wx cj)::js=>
  (Qh s (oZ (s.get (zV d s0 n bx))) hs cj).bind λ(xs,rn)=>(DC d s0 s ps js).bind λ(ys,rm)=>some (xs++ys,rn++rm)
 |ps,(n,bx,.rows rj)::js=>
  (zY s0 s (oZ (s0.get (zV d s0 n bx))) rj).bind λxs=>(DC d s0 s ps js).bind λ(ys,rm)=>some (xs++ys,rm)
 | [],[]=>some ([],[])
 |_,_=>none
def xH(a:Nat):mJ->Bool
 | []=>true
 |(x,_,_)::q=>x.iZ a&&xH a q
def Ce.iZ(a i:Nat):Ce->Bool
 | .p x=>x.iZ a
 | .o id q=>Nat.blt id i&&xH a q
 |_=>true
def zZ(a i:Nat):List Ce->Bool
 | []=>true
 |c::cs=>c.iZ a i&&zZ a i cs
def xI(a i:Nat):List (Bool×List Ce)->Bool
 | []=>true
 |v::vs=>zZ a i v.2&&xI a i vs
def Pv.iZ(a i:Nat):Pv->Bool
 | .z=>true
 | .w t x l=>Nat.blt t i&&x.iZ a&&l.iZ a
def SV.iZ(a i:Nat):SV->Bool
 | .un=>true
 | .v _ cs=>zZ a i cs
 | .pt b _=>Nat.blt b i
 | .ep id q x _ _=>Nat.blt id i&&xH a q&&x.iZ a
 | .fp s x _ _=>s.iZ a&&x.iZ a
 | .tp vs=>xI a i vs
 | .cl _ bs=>bs.all λb=>Nat.blt b i
 | .ob _ x=>x.iZ a
 | .fz p x=>p.iZ a i&&x.iZ a
 | .tk x m=>x.iZ a&&m.iZ a
 | .fl x=>x.iZ a
 | .fr x=>x.iZ a
def ny:mL->Nat->Option (Option Nat)
 | [],_=>none
 |(j,x)::rn,i=>bif Nat.beq j i then some x else ny rn i
def mW:mL->Nat->Option Nat
 | [],_=>none
 |(j,some x)::rn,i=>bif Nat.beq x i then some j else mW rn i
 |(_,none)::rn,i=>mW rn i
def nL(a0:Nat)(xs:List Lf)(n:Nat)(x:Lf):Bool:=
 Nat.ble a0 n&&(match xs[n-a0]? with|some y=>y.beq x|none=>false)
def IG(s:St)(a0 i0:Nat)(xs:List Lf)(rn:mL)(c h:Ce):Bool:=
 (h.beq c&&h.iZ a0 i0)||
 match h,c with
 | .p (.a n),.p x=>nL a0 xs n x
 | .p (.a n),.n=>nL a0 xs n .e
 | .p (.a n),.o id []=>(match s.get (.o id)with| .fz _ x=>nL a0 xs n x|_=>false)
 | .o j [],.n=>Nat.ble i0 j&&(match ny rn j with|some none=>true|_=>false)
 | .o j [],.o id []=>Nat.ble i0 j&&(match ny rn j with|some (some k)=>Nat.beq k id|_=>false)
 | .d,_=>true
 |_,_=>false
def z0(s:St)(a0 i0:Nat)(xs:List Lf)(rn:mL):List Ce->List Ce->Bool
 | [],[]=>true
 |c::cs,h::hs=>IG s a0 i0 xs rn c h&&z0 s a0 i0 xs rn cs hs
 |_,_=>false
def xJ(s:St)(a0 i0:Nat)(xs:List Lf)(rn:mL):St->Bool
 | []=>true
 |(r,.v ag hs)::ps=>
  (match r with| .o _=>false| .x b=>Nat.blt b i0| .t _ _=>true)&&
  (match s.get r with| .v wx cs=>(ag==wx)&&z0 s a0 i0 xs rn cs hs|_=>false)&&xJ s a0 i0 xs rn ps
 |_::_=>false
def vn(s:St)(a0 i0:Nat)(xs:List Lf)(rn:mL):St->Bool
 | []=>true
 |(.o j,.ob dp (.a n))::ps=>
  (match ny rn j with
   |some (some id)=>Nat.ble i0 j&&(match s.get (.o id)with| .ob uF x=>(dp==uF)&&nL a0 xs n x|_=>false)
   |some none=>Nat.ble i0 j&&nL a0 xs n .e
   |none=>Nat.blt j i0&&(match mW rn j with|none=>true|some _=>false)&&(match s.get (.o j)with| .ob uF x=>(dp==uF)&&nL a0 xs n x|_=>false))&&
  vn s a0 i0 xs rn ps
 |(.o j,.tk x (.a n))::ps=>
  (Nat.blt j i0&&(match mW rn j with|none=>true|some _=>false)&&x.iZ a0&&(match s.get (.o j)with| .tk y m=>x.beq y&&nL a0 xs n m|_=>false))&&
  vn s a0 i0 xs rn ps
 |_::_=>false
def SV.isU:SV->Bool
 | .un=>true
 |_=>false
def Qi(i0:Nat)(rn:mL):bn->Bool
 | .o id=>Nat.blt id i0&&(match mW rn id with|none=>true|some _=>false)
 | .x b=>Nat.blt b i0
 | .t _ _=>true
def DD(s:St)(a0 i0:Nat)(rn:mL):St->Bool
 | []=>true
 |(r,v)::h=>(v.isU||(v.beq (s.get r)&&v.iZ a0 i0&&Qi i0 rn r))&&DD s a0 i0 rn h
def s9(i0 i1:Nat)(all:mL):mL->Bool
 | []=>true
 |(j,x)::rn=>Nat.ble i0 j&&Nat.blt j i1&&Nat.beq (j%2) 0&&(match x with|none=>true|some id=>!Nat.beq (id%4) 2&&(match mW all id with|some k=>Nat.beq k j|none=>false))&&s9 i0 i1 all rn
def IH(h:Head)(s:St)(xs:List Lf)(rn:mL):Bool:=
 Nat.beq (h.c0.a+xs.length) h.ct.a&&Nat.blt 0 h.ct.i&&Nat.ble h.c0.i h.ct.i&&s9 h.c0.i h.ct.i rn rn&&DD s h.c0.a h.c0.i rn h.kept&&vn s h.c0.a h.c0.i xs rn h.own&&xJ s h.c0.a h.c0.i xs rn h.new
def gC(d:Nat)(h:Head)(s:St):Option (List Lf):=
 let s1:=s8 s (vm d h.s0 s h.js)
 (DC d h.s0 s1 h.new h.js).bind λ(xs,rn)=>bif IH h s1 xs rn then some xs else none
abbrev KE:=Ex->KP
def rv(d:Nat):St->St
 | []=>[]
 |(.t e n,v)::s=>bif Nat.ble d e then rv d s else(.t e n,v)::rv d s
 |x::s=>x::rv d s
def h_(s:St)(cs:List Ce):List (Nat×Bool)->St
 | []=>s
 |(j,all)::js=>
  match cs[j]? with
  |some (Ce.o id _)=>match s.get (.o id)with
   | .ob _ x=>h_ (s.set (.o id) (bif all then .fz .z x else .ob false x)) cs js
   |_=>h_ s cs js
  |_=>h_ s cs js
def jv(d:Nat)(s:St):Js->St
 | []=>s
 |(n,bx,.rows js)::l=>
  let cs:=oZ (s.get (zV d s n bx))
  jv d (h_ s cs js) l
 |_::l=>jv d s l
def ij(s:St)(ct:Ct)(cs:List Ce):List (Nat×Bool)->St×Ct
 | []=>(s,ct)
 |(j,_)::js=>
  match cs[j]? with
  |some (Ce.o id [])=>match s.get (.o id)with
   | .ob true x=>bif Nat.beq (id%2) 0 then ij ((s.set (.o id) (.fz (.w (mK ct.i) x (.k (.int .i64 0))) x)).set (.o (mK ct.i)) (.tk x x)) ⟨ct.a,mK ct.i+1⟩ cs js else ij s ct cs js
   |_=>ij s ct cs js
  |_=>ij s ct cs js
def jG(d:Nat)(s:St)(ct:Ct):Js->St×Ct
 | []=>(s,ct)
 |(n,bx,.rows js)::l=>
  let r:=ij s ct (oZ (s.get (zV d s n bx))) js
  jG d r.1 r.2 l
 |_::l=>jG d s ct l
def Qj(d:Nat)(h:Head)(lv tag:Nat):KP:=λlv2 s' gI jf=>
 match gC d h s' with
 |some xs=>some (.go (lv2-lv-1) xs)
 |none=>some (.qR tag [h.st,s'])
def z8(d:Nat)(h:Head)(lv tag:Nat)(K:KE):KE:=λe=>
 match e with
 | .normal=>Qj d h lv tag
 |e=>K e
def DE(id:Nat)(K:KE):KE:=λe=>
 match e with
 | .exit i=>bif Nat.beq i id then K .normal else K (.exit i)
 |e=>K e
def adV(cC id:Nat)(ops:Array Oper)(draw:Bool)(k:KP):List Tr->KP:=λtr lv s ct fs=>
 bif draw then
  bif zS [] tr (lZ [] ops.toList)&&xD 0 ops.toList then k lv s ct fs else some (.qR (cC*100000000+100000+id) [])
 else k lv s ct fs
def vo(n i:Nat):Array Bool:=(List.replicate i true++List.replicate (n-i) false).toArray
def II(ops:Array Oper):Bool:=
 match ops.toList with
 | []=>false
 |o::os=>(o::os).all (λx=>match x.op with| .select ..=>false|_=>true)&&o.guard.isNone&&(match o.op with| .move _=>true|_=>false)&&o.after.toList.all (λe=>!Region.binds .any e)&&
   os.all λy=>y.after.toList.any (λe=>Region.binds .any e&&Nat.beq e.on 0)||o.apart ops y
def DF(ops:Array Oper)(c:Nat)(h:Bool):Bool:=
 Nat.blt c ops.size&&((List.range' c (ops.size-c)).all λj=>(List.range j).all λu=>(h&&Nat.beq u 0)||Nat.testBit ((lZ [] ops.toList).getD j 0) u)&&(!h||(II ops&&Nat.blt 0 c))
def adW(cx:Cx)(cC id:Nat):Option (Nat×Bool):=match cx.qB cC 6 id with|some ((c,h,_)::_)=>some (c,h)|_=>none
def DG(cx:Cx)(cR:mV)(cC id d:Nat)(ops:Array Oper)(draw:Bool)(k:KP)(lv:Nat)(s:St)(ct:Ct)(fs:jF):Option PL:=
 match(bif draw then adW cx cC id else none)with
 |none=>Dx cx cR cC id d ops draw (adV cC id ops draw k) ops.toList 0 [] lv s ct fs
 |some (c,h)=>
  Dx cx cR cC id d ops true (λtr lv s ct fs=>bif zS [] tr (lZ [] ops.toList)&&(xD 0 ops.toList&&DF ops c h)then Dx cx cR cC id d ops false (λ_=>k) (ops.toList.drop c) c [] lv s ct fs else some (.qR (cC*100000000+100000+id) []))
   (ops.toList.take c) 0 [] lv s ct fs
def DH(tag:Nat)(v:SV)(cx cy:jF->Option PL)(s:St)(fs:jF):Option PL:=
 match qC fs v with
 | .is b=>bif b then cx fs else cy fs
 | .ask n=>(cx ((n,true)::fs)).bind λp=>(cy ((n,false)::fs)).bind λq=>some (.ite n p q)
 | .nil| .no=>some (.qR tag [s])
def IJ(cx:Cx)(cC d id:Nat)(s:St):St:=match cx.qB cC 4 id with|none=>s|some js=>jv d s js
def DJ(cx:Cx)(cC d id:Nat)(s:St)(ct:Ct):St×Ct:=match cx.qB cC 5 id with|none=>(s,ct)|some js=>jG d s ct js
def comp(cx:Cx)(cR:mV)(cC d:Nat):Code->Nat->Nat->St->Ct->jF->KE->Option PL
 | .skip,_,lv,s,ct,fs,K=>K .normal lv s ct fs
 | .label _,_,lv,s,ct,fs,K=>K .normal lv s ct fs
 | .seq a b,_,lv,s,ct,fs,K=>
  comp cx cR cC d a 0 lv s ct fs λe=>
   match e with
   | .normal=>λlv s ct fs=>comp cx cR cC d b 0 lv s ct fs K
   |e=>K e
 | .region id ops draw,_,lv,s0,ct0,fs,K=>
  let r5:=DJ cx cC d id (IJ cx cC d id s0) ct0
  let s:=r5.1
  let ct:=r5.2
  match cx.qB cC 1 id with
  |none=>DG cx cR cC id d ops draw (K .normal) lv s ct fs
  |some js=>
   let h:=CK d s ct js
   (K .normal lv h.st h.ct fs).bind λk=>
    (DG cx cR cC id d ops draw (Qj d h lv (cC*100000000+200000+id)) (lv+1) s ct fs).bind λb=>some (.join k b)
 | .cond c x y,_,lv,s,ct,fs,K=>
  let key:=match c with| .tmp t=>t|_=>0
  match cx.qB cC 2 key with
  |none=>DH (cC*100000000+5000000+key) (ch d s.get c) (λfs=>comp cx cR cC d x 0 lv s ct fs K) (λfs=>comp cx cR cC d y 0 lv s ct fs K) s fs
  |some js=>
   let h:=CK d s ct js
   (K .normal lv h.st h.ct fs).bind λk=>
    (DH (cC*100000000+5000000+key) (ch d s.get c) (λfs=>comp cx cR cC d x 0 (lv+1) s ct fs (z8 d h lv (cC*100000000+300000+key) K))
     (λfs=>comp cx cR cC d y 0 (lv+1) s ct fs (z8 d h lv (cC*100000000+300000+key) K)) s fs).bind λb=>some (.join k b)
 | .block id body,_,lv,s,ct,fs,K=>
  match cx.qB cC 3 id with
  |none=>comp cx cR cC d body id lv s ct fs (DE id K)
  |some js=>
   let h:=CK d s ct js
   (K .normal lv h.st h.ct fs).bind λk=>
    (comp cx cR cC d body id (lv+1) s ct fs (DE id (z8 d h lv (cC*100000000+400000+id) K))).bind λb=>some (.join k b)
 | .loop body,vp,lv,s,ct,fs,K=>
  match cx.qB cC 0 vp with
  |none=>some (.qR (cC*100000000+500000+vp) [s])
  |some js=>
   let h:=CK d s ct js
   match gC d h s with
   |none=>some (.qR (cC*100000000+600000+vp) [h.st,s])
   |some xs=>(comp cx cR cC d body 0 (lv+1) h.st h.ct fs (z8 d h lv (cC*100000000+700000+vp) K)).bind λb=>some (.loop xs b)
 | .exit id,_,lv,s,ct,fs,K=>K (.exit id) lv s ct fs
 | .ret,_,lv,s,ct,fs,K=>K .ret lv s ct fs
 |_,_,_,_,_,_,_=>some (.qR (cC*100000000+6000000) [])
def results(cx:Cx)(d:Nat)(s:St):List ResultVar->Option (List SV)
 | []=>some []
 | .tmp t::rs=>(results cx d s rs).bind λvs=>some (s.get (.t d t)::vs)
 | .cell a t::rs=>(cx.ty t).bind λti=>
  match s.get (.t d a)with
  | .pt bx off=>match s.get (.x bx)with
   | .v _ cs=>bif Nat.ble (off+ti.sz) cs.length then(results cx d s rs).bind λvs=>some (.v ti.ag ((cs.drop off).take ti.sz)::vs)else none
   |_=>none
  |_=>none
def vq(d:Nat)(s:St):Nat->List SV->St
 |_,[]=>s
 |i,v::vs=>vq d (s.set (.t d i) v) (i+1) vs
def DK(cx:Cx):Nat->mV
 |0=>λ_ _ _ _ _ _ _ _=>none
 |n+1=>λd g vs lv s ct fs k=>
  (cx.fn g).bind λfn=>fn.body.bind λc=>
   bif Nat.ble vs.length fn.ntmps&&wy fn.ntmps c then
    comp cx (DK cx n) g d c 0 lv (vq d (rv d s) 0 vs) ct fs λe lv s ct fs=>
     match e with
     | .exit _=>none
     |_=>(results cx d s fn.results.toList).bind λrs=>k rs lv (rv d s) ct fs
   else none
def DL:List Ce->List Ck->List (Nat×Bool)
 | .o id _::cs,.p::ks=>(id,true)::DL cs ks
 | .o id _::cs,.o false::ks=>(id,false)::DL cs ks
 |_::cs,_::ks=>DL cs ks
 |_,_=>[]
def DM:List SV->List (Bool×List Ck)->List (Nat×Bool)
 |v::vs,r::rs=>DL (oZ v) r.2++DM vs rs
 |_,_=>[]
def z9(s:St):Nat->List PS->List (Nat×Bool)
 |_,[]=>[]
 |i,.v _ _::ps=>z9 s (i+1) ps
 |i,.x _::ps=>(vr (oZ (s.get (.x i)))).map (λid=>(id,true))++z9 s (i+1) ps
 where
 vr:List Ce->List Nat
  | []=>[]
  | .o id _::cs=>id::vr cs
  |_::cs=>vr cs
def Wk.plain(k:Wk):Ce->Option Lf
 | .p x=>some x
 | .n=>some .e
 | .o id []=>match k.get (.o id)with
  | .fz _ x=>some x
  |_=>none
 |_=>none
def Wk.pD(k:Wk):List Ce->Option (List Lf)
 | []=>some []
 |c::cs=>(k.plain c).bind λx=>(Wk.pD k cs).bind λxs=>some (x::xs)
def lS(k:Wk):List Ce->List Ck->Option (Wk×List Lf×List Nat)
 | [],[]=>some (k,[],[])
 | .o id []::cs,.o dp::ks=>
  match k.get (.o id)with
  | .ob uF x=>bif uF==dp&& !Nat.beq (id%4) 2 then(lS k cs ks).bind λ(k,xs,ids)=>some (k,x::xs,id::ids)else none
  |_=>none
 | .n::cs,.o _::ks=>(lS k cs ks).bind λ(k,xs,ids)=>some (k,.e::xs,ids)
 | .p x::cs,.s::ks=>
  (lS k cs ks).bind λ(k,xs,ids)=>
   let(k,y):=k.em .bz [x]
   some (k,y::xs,ids)
 |c::cs,.p::ks=>(k.plain c).bind λx=>(lS k cs ks).bind λ(k,xs,ids)=>some (k,x::xs,ids)
 |_,_=>none
def lH(k:Wk):List SV->List (Bool×List Ck)->Option (Wk×List Lf×List Nat)
 | [],[]=>some (k,[],[])
 | .v ag cs::vs,(wx,ks)::rs=>bif ag==wx then
   (lH k vs rs).bind λ(k,ys,jds)=>(lS k cs ks).bind λ(k,xs,ids)=>some (k,xs++ys,ids++jds)
  else none
 |_,_=>none
def xK(k:Wk):Nat->List PS->Option (List Lf)
 |_,[]=>some []
 |i,.v _ _::ps=>xK k (i+1) ps
 |i,.x n::ps=>
  match k.get (.x i)with
  | .v _ cs=>bif Nat.beq cs.length n then(k.pD cs).bind λxs=>(xK k (i+1) ps).bind λys=>some (xs++ys)else none
  |_=>none
def uH:Nat->Nat->List PS->Nat×St
 |a,_,[]=>(a,[])
 |a,i,.v ag n::ps=>
  let r:=uH (a+n) (i+1) ps
  (r.1,(.t 0 i,.v ag (CJ a n))::r.2)
 |a,i,.x n::ps=>
  let r:=uH (a+n) (i+1) ps
  (r.1,(.t 0 i,.pt i 0)::(.x i,.v true (CJ a n))::r.2)
def IK(cx:Cx)(fn:Func)(sg:nw):KP:=λlv s ct fs=>
 (results cx 0 s fn.results.toList).bind λvs=>
  let s1:=s8 s (DM vs sg.rs++z9 s 0 sg.ps)
  match lH ⟨s1,[],ct,[]⟩ vs sg.rs with
  |none=>some (.qR 90 [s1,vs.map λv=>(.x 0,v)])
  |some (k,xs,ids)=>
   match xK k 0 sg.ps with
   |none=>some (.qR 91 [s1])
   |some ys=>
    bif vg ids then
     bif Nat.beq k.ct.a (ct.a+qo k.is)&&ru k.ct.a k.is then some (wrap k.is (.ret (xs++ys)))else none
    else some (.qR 92 [])
def DN(sg:nw):Bool:=!(pC sg&&sg.rs.any λr=>r.2.any λ | .o true=>true|_=>false)
def z_(cx:Cx)(n cC:Nat)(fn:Func)(sg:nw):Option PL:=
 fn.body.bind λc=>
  let r:=uH 0 0 sg.ps
  bif wy fn.ntmps c&&Nat.ble sg.ps.length fn.ntmps&&DN sg then
   comp cx (DK cx n) cC 0 c 0 0 r.2 ⟨r.1,sg.ps.length+1⟩ [] λe=>
    match e with
    | .exit _=>λ_ _ _ _=>none
    |_=>IK cx fn sg
  else none
theorem Lf.beq_eq{x y:Lf}(h:x.beq y=true):x=y:=by
 cases x with
 |k v=>
  cases y with
  |k u=>
   cases v<;>cases u<;>simp_all[Lf.beq]
   exact ByteArray.ext h
  |a m=>simp[Lf.beq]at h
  |e=>simp[Lf.beq]at h
 |a n=>
  cases y with
  |a m=>simp[Lf.beq]at h;rw[h]
  |k u=>simp[Lf.beq]at h
  |e=>simp[Lf.beq]at h
 |e=>cases y<;>simp[Lf.beq]at h;rfl
inductive Lb where
 |f
 |x (b:Nat)
 |o (id:Nat) (p:List (Nat×Nat))
def Lb.id:Lb->Nat
 | .f=>0
 | .x b=>b
 | .o i _=>i
structure Gh where
 ω:Nat->Option Lb
 β:Nat->Nat
 H:Nat->List (Nat×Nat)->Value
 hs:∀i p,∃a n c,H i p=.slice a n c
def qt:Lb->Bool
 | .o i p=>Nat.beq (i%4) 2||(Nat.beq (i%2) 0&& !p.isEmpty)
 |_=>false
def qf(ω:Nat->Option Lb):Nat->Option Lb:=λb=>match ω b with
 |some l=>bif qt l then none else some l
 |none=>none
theorem z'{ω:Nat->Option Lb}{b:Nat}(h:ω b=none):qf ω b=none:=by simp[qf,h]
theorem Aa{ω:Nat->Option Lb}{b:Nat}{l:Lb}(h:ω b=some l)(hq:qt l=false):qf ω b=some l:=by simp[qf,h,hq]
theorem Qk{ω:Nat->Option Lb}{b:Nat}{l:Lb}(h:ω b=some l)(hq:qt l=true):qf ω b=none:=by simp[qf,h,hq]
theorem Ql{ω:Nat->Option Lb}{b:Nat}(h:qf ω b=none):ω b=none∨∃l,ω b=some l∧qt l=true:=by
 unfold qf at h
 split at h
 ·rename_i l hl
  cases hq:qt l with
  |true=>exact .inr ⟨l,hl,hq⟩
  |false=>simp[hq]at h
 ·rename_i hl;exact .inl hl
theorem vt{ω:Nat->Option Lb}{b:Nat}{l:Lb}(h:ω b=some l)(hq:qt l=false):qf ω b≠none:=by rw[Aa h hq];simp
theorem s_{ω vu:Nat->Option Lb}{b:Nat}(h:qf ω b=none)(hn:ω b=none->vu b=none)(hl:∀l,ω b=some l->qt l=true->vu b=none∨∃l',vu b=some l'∧qt l'=true):qf vu b=none:=by
 rcases Ql h with h0|⟨l,h1,h2⟩
 ·exact z' (hn h0)
 ·rcases hl l h1 h2 with h3|⟨l',h3,h4⟩
  ·exact z' h3
  ·exact Qk h3 h4
def Gh.q(G:Gh):Nat->Option Lb:=qf G.ω
theorem IL{G:Gh}{b:Nat}{l:Lb}(h:G.q b=some l):G.ω b=some l:=by
 unfold Gh.q qf at h
 split at h
 ·rename_i l' hl
  cases hq:qt l' with
  |true=>simp[hq]at h
  |false=>simp[hq]at h;rw[hl,h]
 ·cases h
theorem Gh.vw{G G':Gh}{b:Nat}(h:G'.ω b=G.ω b):G'.q b=G.q b:=by simp only[Gh.q,qf,h]
theorem IM{ρ:List T}{id:Nat}{p:List (Nat×Nat)}(h:p=[]∨id%2=1)(h2:id%4≠2):qt (.o id p)=false:=by
 have e1:Nat.beq (id%4) 2=false:=by
  cases hb:Nat.beq (id%4) 2 with
  |false=>rfl
  |true=>exact absurd (dN hb) h2
 rcases h with rfl|h
 ·simp[qt,e1]
 ·have e2:Nat.beq (id%2) 0=false:=by rw[h];rfl
  simp[qt,e1,e2]
theorem DO{id:Nat}(h2:id%4≠2):qt (.o id [])=false:=IM (ρ:=[]) (.inl rfl) h2
theorem vx{i:Nat}{p:List (Nat×Nat)}(hi:i%2=0)(hp:p≠[]):qt (.o i p)=true:=by
 cases p with
 |nil=>exact absurd rfl hp
 |cons x p=>simp[qt,hi]
theorem IP{i:Nat}{p:List (Nat×Nat)}(hi:i%4=2):qt (.o i p)=true:=by simp[qt,hi]
def dK(xs:List (List T))(i j:Nat):Option T:=xs[i]?.bind (·[j]?)
inductive eM (ω:Nat->Option Lb) (w:World):T->Value->Prop
 |c {v:Value} (h:j_ v=true):eM ω w (.c v) v
 |nil {a:Option Addr} {cap:Nat}:eM ω w (.l []) (.slice a 0 cap)
 |l {xs:List (List T)} {b off wd cap:Nat} {cv:Nat->Nat->Value} (hw:∀r∈xs,r.length=wd) (hc:xs.length<=cap)
   (hb:ω b=none) (be:b<w.heap.size)
   (h1:∀i j t,dK xs i j=some t->w.cell? ⟨b,off+(i*wd+j),none⟩=some (cv i j))
   (h2:∀i j t,dK xs i j=some t->eM ω w t (cv i j)):eM ω w (.l xs) (.slice (some ⟨b,off,none⟩) xs.length cap)
inductive eX (G:Gh) (w:World) (id:Nat):Bool->List (Nat×Nat)->T->Prop
 |nil {dp:Bool} {p:List (Nat×Nat)} (hH:G.H id p=.slice none 0 0):eX G w id dp p (.l [])
 |l {dp:Bool} {p:List (Nat×Nat)} {xs:List (List T)} {b wd cap:Nat} {bT:Array Value} {elem:TypeId} {cv:Nat->Nat->Value}
   (hH:G.H id p=.slice (some ⟨b,0,none⟩) xs.length cap) (hc:xs.length<=cap∧(xs=[]->cap=0)) (gV:G.ω b=some (.o id p))
   (hh:w.heap[b]?=some (.cells bT elem (0,0))) (hs:bT.size=cap*wd) (hw:∀r∈xs,r.length=wd)
   (h1:∀i j t,dK xs i j=some t->bT[i*wd+j]?=some (cv i j))
   (hv:∀i j v,dK xs i j=some (.c v)->cv i j=v∧j_ v=true)
   (hp:∀i j ys,dK xs i j=some (.l ys)->dp=false->eM G.q w (.l ys) (cv i j))
   (hq:∀i j ys,dK xs i j=some (.l ys)->dp=true->cv i j=G.H id (p++[(i,j)]))
   (ho:∀i j ys,dK xs i j=some (.l ys)->dp=true->eX G w id true (p++[(i,j)]) (.l ys)):eX G w id dp p (.l xs)
def Lf.fE(ρ:List T):Lf->Option T
 | .k v=>bif j_ v then some (.c v)else none
 | .a n=>ρ[n]?
 | .e=>some (.l [])
theorem Lf.bM{ρ:List T}{x:Lf}{t:T}(h:x.fE ρ=some t):x.ev ρ=t:=by
 cases x with
 |k v=>simp only[Lf.fE]at h;cases hs:j_ v<;>simp[hs]at h;simp[Lf.ev,h]
 |a n=>simp only[Lf.fE]at h;simp[Lf.ev,List.getD,h]
 |e=>simpa[Lf.fE,Lf.ev]using h
def lI(ρ:List T)(x:Lf):Option Nat:=
 match x.fE ρ with
 |some (.c (.int _ n))=>if 0<=n then some n.toNat else none
 |_=>none
def gD(ρ:List T):mJ->Option (List (Nat×Nat))
 | []=>some []
 |(x,_,j)::q=>(lI ρ x).bind λi=>(gD ρ q).bind λp=>some ((i,j)::p)
def kR(ρ:List T)(id:Nat)(q:mJ):Option (List (Nat×Nat)):=
 match q with
 | []=>some []
 |x::q=>if id%2=1 then gD ρ (x::q)else none
theorem l7{ρ:List T}{id:Nat}:kR ρ id []=some []:=rfl
theorem ta{ρ:List T}{id:Nat}{q:mJ}{p:List (Nat×Nat)}(h:kR ρ id q=some p):gD ρ q=some p:=by
 cases q with
 |nil=>exact h
 |cons x q=>
  simp only[kR]at h
  split at h
  ·exact h
  ·cases h
theorem DP{ρ:List T}{id:Nat}{q:mJ}{p:List (Nat×Nat)}(h:kR ρ id q=some p):p=[]∨id%2=1:=by
 cases q with
 |nil=>simp only[kR,br]at h;exact .inl h.symm
 |cons x q=>
  simp only[kR]at h
  split at h
  ·exact .inr (by assumption)
  ·cases h
theorem adX{ρ:List T}{id:Nat}{q:mJ}{p:List (Nat×Nat)}(h:gD ρ q=some p)(hi:id%2=1):kR ρ id q=some p:=by
 cases q with
 |nil=>exact h
 |cons x q=>simp only[kR,if_pos hi];exact h
def fT(G:Gh)(w:World)(ρ:List T):Ce->Value->Prop
 | .p x,c=>∃t,x.fE ρ=some t∧eM G.q w t c
 | .o id q,c=>∃p,kR ρ id q=some p∧c=G.H id p
 | .n,c=>c=.slice none 0 0
 | .d,c=>c.oneCell'=true
def aX(G:Gh)(w:World)(ρ:List T):List Ce->List Value->Prop
 | [],[]=>True
 |c::cs,v::vs=>fT G w ρ c v∧aX G w ρ cs vs
 |_,_=>False
def eY(G:Gh)(w:World)(ρ:List T)(ag:Bool)(cs:List Ce)(c:Value):Prop:=
 match ag with
 |true=>∃vs:List Value,c=.agg vs.toArray∧aX G w ρ cs vs
 |false=>∃e,cs=[e]∧fT G w ρ e c∧∀a,c≠.agg a
def gn(G:Gh)(w:World)(ρ:List T):List (Bool×List Ce)->List Value->Prop
 | [],[]=>True
 |c::cs,v::vs=>eY G w ρ c.1 c.2 v∧gn G w ρ cs vs
 |_,_=>False
def cD(G:Gh)(w:World)(ρ:List T):SV->Value->Prop
 | .un,_=>True
 | .v ag cs,c=>eY G w ρ ag cs c
 | .pt b off,c=>c=.pointer (some ⟨G.β b,off,none⟩)
 | .ep id q ix wd off,c=>∃p b n cap i,kR ρ id q=some p∧G.H id p=.slice (some ⟨b,0,none⟩) n cap∧lI ρ ix=some i∧i<n∧
   c=.pointer (some ⟨b,i*wd+off,none⟩)
 | .fp s ix wd off,c=>∃xs i r b base,s.fE ρ=some (.l xs)∧lI ρ ix=some i∧xs[i]?=some r∧c=.pointer (some ⟨b,base+off,none⟩)∧
   (r.length=wd->G.q b=none∧b<w.heap.size∧∀j t,r[j]?=some t->∃u,w.cell? ⟨b,base+j,none⟩=some u∧eM G.q w t u)
 | .tp vs,c=>∃us:List Value,c=.tuple us.toArray∧gn G w ρ vs us
 | .cl f bs,c=>c=.func (.func f) #[] (bs.map λb=>Value.pointer (some ⟨G.β b,0,none⟩)).toArray
 | .ob _ _,_=>False
 | .fz _ _,_=>False
 | .tk _ _,_=>False
 | .fl _,_=>False
 | .fr _,_=>False
def fP(G:Gh)(w:World)(ρ:List T)(b:Nat):SV->Prop
 | .v _ cs=>G.ω (G.β b)=some (.x b)∧∃bT elem,w.heap[G.β b]?=some (.cells bT elem (0,0))∧aX G w ρ cs bT.toList
 | .un=>True
 |_=>False
def ov(w:World)(H:List (Nat×Nat)->Value)(n:Nat)(v:Value)(zs:List (List T)):Prop:=
 ∀b off k c,v=.slice (some ⟨b,off,none⟩) k c->∃wd,(∀r∈zs,r.length=wd)∧∀i j ys,dK zs i j=some (.l ys)->w.cell? ⟨b,off+(i*wd+j),none⟩=some (H [(n+i,j)])
def wC(G:Gh)(w:World)(ρ:List T)(v:Value)(t:T):Pv->Prop
 | .z=>True
 | .w tk x lo=>tk%4=2∧∃F n zs,x.fE ρ=some (.l F)∧lI ρ lo=some n∧t=.l zs∧(∀i r,zs[i]?=some r->F[n+i]?=some r)∧
   ov w (G.H tk) n v zs∧(n=0->∀b off k c,v=.slice (some ⟨b,off,none⟩) k c->off=0)
def cE(G:Gh)(w:World)(ρ:List T)(id:Nat):SV->Prop
 | .ob dp x=>∃t,x.fE ρ=some t∧eX G w id dp [] t
 | .fz pv x=>∃t,x.fE ρ=some t∧eM G.q w t (G.H id [])∧wC G w ρ (G.H id []) t pv
 | .tk x m=>id%4=2∧∃F u,x.fE ρ=some (.l F)∧m.fE ρ=some (.l u)∧u.length=F.length∧
   ∀i r,u[i]?=some r->r≠[]->F[i]?=some r∧∀j ys,r[j]?=some (.l ys)->eX G w id true [(i,j)] (.l ys)
 | .fl x=>id%4=2∧∃t,x.fE ρ=some t∧eX G w id true [] t
 | .fr x=>id%4=0∧∃ys,x.fE ρ=some (.l ys)∧eM G.q w (.l ys) (G.H id [])∧ov w (G.H id) 0 (G.H id []) ys∧
   ∀i j zs,dK ys i j=some (.l zs)->eX G w id true [(i,j)] (.l zs)
 | .un=>True
 |_=>False
structure di (I:Lb->Prop) (N:Nat->Prop) (G:Gh) (w:World) (G':Gh) (w':World):Prop where
 size:w.heap.size<=w'.heap.size
 free:∀b,b<w.heap.size->G.q b=none->G'.q b=none∧w'.heap[b]?=w.heap[b]?
 frs:∀b,b<w.heap.size->G.ω b=none->G'.ω b=none
 own:∀b l,G.ω b=some l->¬I l->G'.ω b=some l∧w'.heap[b]?=w.heap[b]?
 nm:∀i,¬N i->G'.β i=G.β i∧∀p,(p=[]∨i%4≠0∨∀r,¬I (.o i r))->G'.H i p=G.H i p
theorem IQ{w w':World}{b:Nat}(h:w'.heap[b]?=w.heap[b]?)(off:Nat):w'.cell? ⟨b,off,none⟩=w.cell? ⟨b,off,none⟩:=by
 simp only[World.cell?,h]
theorem eM.aY{ω vu:Nat->Option Lb}{w w':World}(hs:w.heap.size<=w'.heap.size)
  (hf:∀b,b<w.heap.size->ω b=none->vu b=none∧w'.heap[b]?=w.heap[b]?){t:T}{c:Value}(h:eM ω w t c):eM vu w' t c:=by
 induction h with
 |c h=>exact .c h
 |nil=>exact .nil
 |l hw hc hb be h1 h2 ih=>
  obtain⟨jz,hh⟩:=hf _ be hb
  exact .l hw hc jz (Nat.lt_of_lt_of_le be hs) (λi j t ht=>by rw[IQ hh];exact h1 i j t ht) ih
theorem eX.aY{I:Lb->Prop}{N:Nat->Prop}{G G':Gh}{w w':World}(k:di I N G w G' w'){id:Nat}(hi:∀p,¬I (.o id p))(hn:¬N id){dp:Bool}{p:List (Nat×Nat)}{t:T}
  (h:eX G w id dp p t):eX G' w' id dp p t:=by
 have hH:G'.H id=G.H id:=funext λp=>(k.nm id hn).2 p (.inr (.inr hi))
 induction h with
 |nil h=>exact .nil (by rw[hH];exact h)
 |l h1 h2 h3 h4 h5 h6 h7 h8 h9 nz _ ih=>
  obtain⟨ho,hh⟩:=k.own _ _ h3 (hi _)
  exact .l (by rw[hH];exact h1) h2 ho (hh.trans h4) h5 h6 h7 h8 (λi j ys hy hd=>(h9 i j ys hy hd).aY k.size k.free)
   (λi j ys hy hd=>by rw[hH];exact nz i j ys hy hd) ih
def dF:List Ce->List Nat
 | []=>[]
 | .o id _::cs=>id::dF cs
 |_::cs=>dF cs
def ry:List (Bool×List Ce)->List Nat
 | []=>[]
 |v::vs=>dF v.2++ry vs
def de:SV->List Nat
 | .v _ cs=>dF cs
 | .pt b _=>[b]
 | .ep id _ _ _ _=>[id]
 | .cl _ bs=>bs
 | .tp vs=>ry vs
 | .fz (.w tk _ _) _=>[tk]
 |_=>[]
theorem fT.aY{I:Lb->Prop}{N:Nat->Prop}{G G':Gh}{w w':World}(k:di I N G w G' w'){ρ:List T}{e:Ce}{c:Value}(hn:∀i∈dF [e],¬N i)
  (h:fT G w ρ e c):fT G' w' ρ e c:=by
 cases e with
 |p x=>obtain⟨t,h1,h2⟩:=h;exact⟨t,h1,h2.aY k.size k.free⟩
 |o id q=>obtain⟨p,h1,h2⟩:=h;exact⟨p,h1,by rw[(k.nm id (hn id (by simp[dF]))).2 p ((DP h1).imp_right λh=>.inl (by omega))];exact h2⟩
 |n=>exact h
 |d=>exact h
theorem xL(e:Ce)(cs:List Ce):dF (e::cs)=dF [e]++dF cs:=by
 cases e<;>simp[dF]
theorem aX.aY{I:Lb->Prop}{N:Nat->Prop}{G G':Gh}{w w':World}(k:di I N G w G' w'){ρ:List T}:∀{cs:List Ce} {vs:List Value},(∀i∈dF cs,¬N i)->
  aX G w ρ cs vs->aX G' w' ρ cs vs
 | [],[],_,_=>trivial
 | [],_::_,_,h=>h.elim
 |_::_,[],_,h=>h.elim
 |e::cs,v::vs,hn,h=>by
  rw[xL]at hn
  exact⟨h.1.aY k (λi hi=>hn i (List.mem_append_left _ hi)),aX.aY k (λi hi=>hn i (List.mem_append_right _ hi)) h.2⟩
theorem eY.aY{I:Lb->Prop}{N:Nat->Prop}{G G':Gh}{w w':World}(k:di I N G w G' w'){ρ:List T}{ag:Bool}{cs:List Ce}{c:Value}(hn:∀i∈dF cs,¬N i)
  (h:eY G w ρ ag cs c):eY G' w' ρ ag cs c:=by
 cases ag with
 |true=>obtain⟨vs,h1,h2⟩:=h;exact⟨vs,h1,h2.aY k hn⟩
 |false=>obtain⟨e,rfl,h2,h3⟩:=h;exact⟨e,rfl,h2.aY k hn,h3⟩
theorem gn.aY{I:Lb->Prop}{N:Nat->Prop}{G G':Gh}{w w':World}(k:di I N G w G' w'){ρ:List T}:∀{cs:List (Bool×List Ce)} {vs:List Value},(∀i∈ry cs,¬N i)->
  gn G w ρ cs vs->gn G' w' ρ cs vs
 | [],[],_,_=>trivial
 | [],_::_,_,h=>h.elim
 |_::_,[],_,h=>h.elim
 |e::cs,v::vs,hn,h=>⟨h.1.aY k (λi hi=>hn i (by simp[ry,hi])),gn.aY k (λi hi=>hn i (by simp[ry,hi])) h.2⟩
theorem cD.aY{I:Lb->Prop}{N:Nat->Prop}{G G':Gh}{w w':World}(k:di I N G w G' w'){ρ:List T}{v:SV}{c:Value}(hn:∀i∈de v,¬N i)
  (h:cD G w ρ v c):cD G' w' ρ v c:=by
 cases v with
 |un=>trivial
 |v ag cs=>exact eY.aY k hn h
 |pt b off=>exact(by rw[cD,(k.nm b (hn b (by simp[de]))).1];exact h)
 |ep id q ix wd off=>
  obtain⟨p,b,n,cap,i,h1,h2,h3⟩:=h
  exact⟨p,b,n,cap,i,h1,by rw[(k.nm id (hn id (by simp[de]))).2 p ((DP h1).imp_right λh=>.inl (by omega))];exact h2,h3⟩
 |fp s ix wd off=>
  obtain⟨xs,i,r,b,base,h1,h2,h3,h4,h5⟩:=h
  refine⟨xs,i,r,b,base,h1,h2,h3,h4,λhr=>?_⟩
  obtain⟨h6,h7,h8⟩:=h5 hr
  obtain⟨h9,nz⟩:=k.free _ h7 h6
  refine⟨h9,Nat.lt_of_lt_of_le h7 k.size,λj t ht=>?_⟩
  obtain⟨u,hu,hd⟩:=h8 j t ht
  exact⟨u,by rw[IQ nz];exact hu,hd.aY k.size k.free⟩
 |tp vs=>obtain⟨us,h1,h2⟩:=h;exact⟨us,h1,h2.aY k hn⟩
 |cl f bs=>
  simp only[cD]at h⊢
  rw[h]
  congr 2
  exact List.map_congr_left λb hb=>by rw[(k.nm b (hn b (by simpa[de]using hb))).1]
 |ob dp x=>exact h
 |fz pv x=>exact h
 |tk x m=>exact h
 |fl x=>exact h
 |fr x=>exact h
theorem fP.aY{I:Lb->Prop}{N:Nat->Prop}{G G':Gh}{w w':World}(k:di I N G w G' w'){ρ:List T}{b:Nat}{v:SV}(hi:¬I (.x b))(hb:¬N b)(hn:∀i∈de v,¬N i)
  (h:fP G w ρ b v):fP G' w' ρ b v:=by
 cases v with
 |v ag cs=>
  obtain⟨h1,bT,elem,h2,h3⟩:=h
  obtain⟨h4,h5⟩:=k.own _ _ h1 hi
  have DQ:=(k.nm b hb).1
  exact⟨by rw[DQ];exact h4,bT,elem,by rw[DQ];exact h5.trans h2,h3.aY k hn⟩
 |un=>trivial
 |_=>exact h
theorem ov.aY{ω:Nat->Option Lb}{w w':World}{H H':List (Nat×Nat)->Value}{n:Nat}{v:Value}{zs:List (List T)}(h:ov w H n v zs)(hd:eM ω w (.l zs) v)
  (hf:∀b,b<w.heap.size->ω b=none->w'.heap[b]?=w.heap[b]?)(hH:∀p,p≠[]->H' p=H p):ov w' H' n v zs:=by
 intro b off k c hv
 obtain⟨wd,h1,h2⟩:=h b off k c hv
 refine⟨wd,h1,λi j ys bE=>?_⟩
 rw[hH _ (by simp),<-h2 i j ys bE]
 subst hv
 generalize hv:Value.slice (some (⟨b,off,none⟩:Addr)) k c=v at hd
 cases hd with
 |nil=>simp[dK]at bE
 |l g1 g2 g3 g4 g5 g6=>cases hv;exact IQ (hf _ g4 g3) _
theorem wC.aY{I:Lb->Prop}{N:Nat->Prop}{G G':Gh}{w w':World}(k:di I N G w G' w'){ρ:List T}{pv:Pv}{v:Value}{t:T}(hd:eM G.q w t v)(hn:∀x i,i∈de (.fz pv x)->¬N i)
  (h:wC G w ρ v t pv):wC G' w' ρ v t pv:=by
 cases pv with
 |z=>trivial
 |w tk x lo=>
  obtain⟨h0,F,n,zs,h1,h2,rfl,h3,h4,h5⟩:=h
  refine⟨h0,F,n,zs,h1,h2,rfl,h3,h4.aY hd (λb hb h=>(k.free b hb h).2) λp _=>?_,h5⟩
  exact(k.nm tk (hn .e tk (by simp[de]))).2 p (.inr (.inl (by omega)))
theorem cE.aY{I:Lb->Prop}{N:Nat->Prop}{G G':Gh}{w w':World}(k:di I N G w G' w'){ρ:List T}{id:Nat}{v:SV}(hi:∀p,¬I (.o id p))(hb:¬N id)(hn:∀i∈de v,¬N i)
  (h:cE G w ρ id v):cE G' w' ρ id v:=by
 cases v with
 |ob dp x=>obtain⟨t,h1,h2⟩:=h;exact⟨t,h1,h2.aY k hi hb⟩
 |fz pv x=>
  obtain⟨t,h1,h2,h3⟩:=h
  have e:=(k.nm id hb).2 [] (.inl rfl)
  exact⟨t,h1,by rw[e];exact h2.aY k.size k.free,by rw[e];exact h3.aY k h2 (λ_ i hi=>hn i (by cases pv<;>exact hi))⟩
 |tk x m=>
  obtain⟨h0,F,u,h1,h2,h3,h4⟩:=h
  exact⟨h0,F,u,h1,h2,h3,λi r hr dk=>⟨(h4 i r hr dk).1,λj ys hy=>((h4 i r hr dk).2 j ys hy).aY k hi hb⟩⟩
 |fl x=>obtain⟨h0,t,h1,h2⟩:=h;exact⟨h0,t,h1,h2.aY k hi hb⟩
 |fr x=>
  obtain⟨h0,ys,h1,h2,h3,h4⟩:=h
  have e:=λp=>(k.nm id hb).2 p (.inr (.inr hi))
  refine⟨h0,ys,h1,by rw[e];exact h2.aY k.size k.free,by rw[e];exact h3.aY h2 (λb hb h=>(k.free b hb h).2) λp _=>e p,λi j zs hz=>(h4 i j zs hz).aY k hi hb⟩
 |un=>trivial
 |_=>exact h
theorem di.refl(G:Gh)(w:World):di (λ_=>False) (λ_=>False) G w G w:=
 ⟨Nat.le_refl _,λ_ _ h=>⟨h,rfl⟩,λ_ _ h=>h,λ_ _ h _=>⟨h,rfl⟩,λ_ _=>⟨rfl,λ_ _=>rfl⟩⟩
theorem di.mono{I I':Lb->Prop}{N N':Nat->Prop}{G G':Gh}{w w':World}(k:di I N G w G' w')(hI:∀l,I l->I' l)(hN:∀i,N i->N' i):di I' N' G w G' w':=
 ⟨k.size,k.free,k.frs,λb l hb hl=>k.own b l hb λh=>hl (hI l h),λi hi=>⟨(k.nm i λh=>hi (hN i h)).1,λp hp=>(k.nm i λh=>hi (hN i h)).2 p (hp.imp_right λh=>h.imp_right λh r hr=>h r (hI _ hr))⟩⟩
theorem di.trans{I:Lb->Prop}{N:Nat->Prop}{G G' G'':Gh}{w w' w'':World}(k:di I N G w G' w')(k':di I N G' w' G'' w''):di I N G w G'' w'':=by
 refine⟨Nat.le_trans k.size k'.size,λb hb h0=>?_,λb hb h0=>k'.frs b (Nat.lt_of_lt_of_le hb k.size) (k.frs b hb h0),λb l hb hl=>?_,λi hi=>?_⟩
 ·obtain⟨h1,h2⟩:=k.free b hb h0
  obtain⟨h3,h4⟩:=k'.free b (Nat.lt_of_lt_of_le hb k.size) h1
  exact⟨h3,h4.trans h2⟩
 ·obtain⟨h1,h2⟩:=k.own b l hb hl
  obtain⟨h3,h4⟩:=k'.own b l h1 hl
  exact⟨h3,h4.trans h2⟩
 ·exact⟨(k'.nm i hi).1.trans (k.nm i hi).1,λp hp=>((k'.nm i hi).2 p hp).trans ((k.nm i hi).2 p hp)⟩
theorem St.tb(s:St)(r:bn):s.get r=(s.look r).getD .un:=by
 induction s with
 |nil=>rfl
 |cons x s ih=>
  obtain⟨r',v⟩:=x
  cases h:r'.beq r<;>simp[St.get,St.look,h,ih]
theorem St.aS(s W:St)(r:bn):(s.fe W).get r=(W.look r).getD (s.get r):=by
 induction W with
 |nil=>rfl
 |cons x W ih=>
  obtain⟨r',v⟩:=x
  cases h:r'.beq r with
  |true=>
   have:=bn.beq_iff.1 h
   subst this
   simp[St.fe,St.cg,St.look,h]
  |false=>
   have dk:r'≠r:=λe=>by simp[bn.beq_iff.2 e]at h
   simp[St.fe,St.eh _ _ dk,St.look,h,ih]
theorem St.bg(s:St)(r:bn)(v:SV):(s.set r v).look r=some v:=by
 induction s with
 |nil=>simp[St.set,St.look,(bn.beq_iff).2 rfl]
 |cons x s ih=>
  obtain⟨r',v'⟩:=x
  cases h:r'.beq r with
  |true=>simp[St.set,St.look,h,(bn.beq_iff).2 rfl]
  |false=>simp[St.set,St.look,h,ih]
theorem St.cz(s:St){r r':bn}(v:SV)(h:r≠r'):(s.set r v).look r'=s.look r':=by
 have hb:r.beq r'=false:=by
  cases hh:r.beq r' with
  |false=>rfl
  |true=>exact absurd (bn.beq_iff.1 hh) h
 induction s with
 |nil=>simp[St.set,St.look,hb]
 |cons x s ih=>
  obtain⟨r2,v2⟩:=x
  cases h2:r2.beq r with
  |true=>
   have:=bn.beq_iff.1 h2
   subst this
   simp[St.set,St.look,h2,hb]
  |false=>
   cases h3:r2.beq r' with
   |true=>simp[St.set,St.look,h2,h3]
   |false=>simp[St.set,St.look,h2,h3,ih]
theorem St.Ab(s:St)(R:List bn){r:bn}(h:r∈R):(s.only R).get r=s.get r:=by
 induction R with
 |nil=>cases h
 |cons x R ih=>
  simp only[St.only,St.get]
  cases hb:x.beq r with
  |true=>have:=bn.beq_iff.1 hb;subst this;rfl
  |false=>
   refine ih ?_
   cases h with
   |head=>simp[bn.beq_iff.2 rfl]at hb
   |tail _ h=>exact h
theorem St.rz(s:St)(R:List bn){r:bn}(h:r∉R):(s.only R).get r=.un:=by
 induction R with
 |nil=>rfl
 |cons x R ih=>
  simp only[St.only,St.get]
  have hb:x.beq r=false:=by
   cases hb:x.beq r with
   |false=>rfl
   |true=>exact absurd (bn.beq_iff.1 hb▸List.mem_cons_self) h
  rw[hb]
  exact ih λhm=>h (List.mem_cons_of_mem _ hm)
structure eI where
 w0:World
 nA:Nat->Option Lb
 bt:Nat->Option Nat
def Qm:List (Nat×List Value):=[]
def DR(ω:Nat->Option Lb)(w:World):Prop:=∀x∈Qm,x.1<w.heap.size∧ω x.1=none∧∃e z,w.heap[x.1]?=some (.cells x.2.toArray e z)
structure vy (B:eI) (G:Gh) (w:World):Prop where
 os:w.os=B.w0.os
 tape:w.tape=B.w0.tape
 output:w.output=B.w0.output
 size:B.w0.heap.size<=w.heap.size
 free:∀b,b<B.w0.heap.size->B.nA b=none->G.ω b=none∧w.heap[b]?=B.w0.heap[b]?
 CL:∀b,B.nA b=some .f->G.ω b=some .f∧w.heap[b]?=B.w0.heap[b]?
 gl:DR B.nA B.w0
theorem vy.adZ{B:eI}{G:Gh}{w:World}(h:vy B G w):DR G.ω w:=λx hx=>by
 obtain⟨h1,h2,e,z,h3⟩:=h.gl x hx
 obtain⟨h4,h5⟩:=h.free x.1 h1 h2
 exact⟨Nat.lt_of_lt_of_le h1 h.size,h4,e,z,h5.trans h3⟩
def oz(up:Nat->Nat->Value)(d:Nat)(a:Act)(e n:Nat):Value:=if e=d then a.tmps.getD n undef else up e n
structure Rel (M:Nat->Prop) (B:eI) (d:Nat) (up:Nat->Nat->Value) (s:St) (ρ:List T) (G:Gh) (a:Act) (w:World):Prop where
 tm:∀e n,e<=d->cD G w ρ (s.get (.t e n)) (oz up d a e n)
 bx:∀b,fP G w ρ b (s.get (.x b))
 ob:∀i,cE G w ρ i (s.get (.o i))
 fQ:∀r,∀i∈de (s.get r),M i
 key:∀i,(s.get (.x i)≠.un∨s.get (.o i)≠.un)->M i
 ia:∀b l,G.ω b=some l->M l.id∧b<w.heap.size
 dn:a.defers=[]
 base:vy B G w
 bt:∀i b,B.bt i=some b->M i∧G.β i=b
theorem IR{up:Nat->Nat->Value}{d:Nat}{a:Act}{dst:Option Nat}{v:Value}{e n:Nat}(h:¬(e=d∧dst=some n)):
  oz up d (a.put dst v) e n=oz up d a e n:=by
 unfold oz
 split
 ·rename_i he
  cases dst with
  |none=>rfl
  |some m=>
   have dk:m≠n:=λhm=>h ⟨he,by rw[hm]⟩
   simp[Act.put,Array.getD_eq_getD_getElem?,Array.getElem?_setIfInBounds_ne dk]
 ·rfl
theorem Qn{up:Nat->Nat->Value}{d:Nat}{a:Act}{v:Value}{n:Nat}(h:n<a.tmps.size):oz up d (a.put (some n) v) d n=v:=by
 simp[oz,Act.put,Array.getD_eq_getD_getElem?,h]
theorem Rel.mono{M M':Nat->Prop}{B:eI}{d:Nat}{up:Nat->Nat->Value}{s:St}{ρ:List T}{G:Gh}{a:Act}{w:World}(h:Rel M B d up s ρ G a w)
  (hM:∀i,M i->M' i):Rel M' B d up s ρ G a w:=
 ⟨h.tm,h.bx,h.ob,λr i hi=>hM i (h.fQ r i hi),λi hi=>hM i (h.key i hi),λb l hl=>⟨hM _ (h.ia b l hl).1,(h.ia b l hl).2⟩,h.dn,h.base,λi b hb=>⟨hM i (h.bt i b hb).1,(h.bt i b hb).2⟩⟩
def oA(W:St):Lb->Prop
 | .f=>False
 | .x b=>W.look (.x b)≠none
 | .o i _=>W.look (.o i)≠none
theorem Rel.glue{M M':Nat->Prop}{B:eI}{d:Nat}{up:Nat->Nat->Value}{s s':St}{ρ:List T}{G:Gh}{a:Act}{w:World}(h:Rel M B d up s ρ G a w)
  {N:Nat->Prop}{G':Gh}{w':World}{W:St}(k:di (oA W) N G w G' w'){dst:Option Nat}{v:Value}
  (hN:∀i,N i->¬M i)(hM:∀i,M i->M' i)
  (hd:∀n,dst=some n->W.look (.t d n)≠none)
  (hr:Rel M' B d up (s'.fe W) ρ G' (a.put dst v) w'):Rel M' B d up (s.fe W) ρ G' (a.put dst v) w':=by
 have hw:∀r u,W.look r=some u->(s'.fe W).get r=u:=λr u hu=>by rw[St.aS,hu];rfl
 refine⟨?_,?_,?_,?_,?_,hr.ia,hr.dn,hr.base,hr.bt⟩
 ·intro e n he
  rw[St.aS]
  cases hl:W.look (.t e n)with
  |some u=>have:=hr.tm e n he;rw[hw _ _ hl]at this;exact this
  |none=>
   rw[IR λ⟨h1,h2⟩=>hd n h2 (h1▸hl)]
   exact(h.tm e n he).aY k λi hi hn=>hN i hn (h.fQ _ i hi)
 ·intro b
  rw[St.aS]
  cases hl:W.look (.x b)with
  |some u=>have:=hr.bx b;rw[hw _ _ hl]at this;exact this
  |none=>
   by_cases hu:s.get (.x b)=.un
   ·simp only[Option.getD_none,hu];trivial
   ·exact(h.bx b).aY k (λhk=>hk hl) (λhn=>hN b hn (h.key b (.inl hu))) λi hi hn=>hN i hn (h.fQ _ i hi)
 ·intro i
  rw[St.aS]
  cases hl:W.look (.o i)with
  |some u=>have:=hr.ob i;rw[hw _ _ hl]at this;exact this
  |none=>
   by_cases hu:s.get (.o i)=.un
   ·simp only[Option.getD_none,hu];trivial
   ·exact(h.ob i).aY k (λp hk=>hk hl) (λhn=>hN i hn (h.key i (.inr hu))) λj hj hn=>hN j hn (h.fQ _ j hj)
 ·intro r i hi
  rw[St.aS]at hi
  cases hl:W.look r with
  |some u=>rw[hl]at hi;refine hr.fQ r i ?_;rw[hw _ _ hl];exact hi
  |none=>rw[hl]at hi;exact hM i (h.fQ r i hi)
 ·intro i hi
  rw[St.aS,St.aS]at hi
  rcases hi with hi|hi
  ·cases hl:W.look (.x i)with
   |some u=>rw[hl]at hi;exact hr.key i (.inl (by rw[hw _ _ hl];exact hi))
   |none=>rw[hl]at hi;exact hM i (h.key i (.inl hi))
  ·cases hl:W.look (.o i)with
   |some u=>rw[hl]at hi;exact hr.key i (.inr (by rw[hw _ _ hl];exact hi))
   |none=>rw[hl]at hi;exact hM i (h.key i (.inr hi))
theorem Rel.DS{M:Nat->Prop}{B:eI}{d:Nat}{up:Nat->Nat->Value}{s:St}{ρ:List T}{G:Gh}{a:Act}{w:World}(h:Rel M B d up s ρ G a w)
  {n:Nat}{x:SV}{v:Value}(hn:n<a.tmps.size)(hr:cD G w ρ x v)(hm:∀i∈de x,M i):
  Rel M B d up (s.set (.t d n) x) ρ G (a.put (some n) v) w:=by
 have hg:∀r,r≠.t d n->(s.set (.t d n) x).get r=s.get r:=λr hr=>St.eh _ _ (Ne.symm hr)
 refine⟨λe m he=>?_,λb=>?_,λi=>?_,λr i hi=>?_,λi hi=>?_,h.ia,h.dn,h.base,h.bt⟩
 ·by_cases iN:(bn.t e m)=.t d n
  ·cases iN;rw[St.cg,Qn hn];exact hr
  ·rw[hg _ iN,IR λ⟨h1,h2⟩=>iN (by cases h1;cases h2;rfl)];exact h.tm e m he
 ·rw[hg _ (by simp)];exact h.bx b
 ·rw[hg _ (by simp)];exact h.ob i
 ·by_cases iN:r=.t d n
  ·subst iN;rw[St.cg]at hi;exact hm i hi
  ·rw[hg _ iN]at hi;exact h.fQ r i hi
 ·rw[hg _ (by simp),hg _ (by simp)]at hi;exact h.key i hi
def bA(S:Nat->af)(ρ:List T):Nat->List Dm->Prop
 |_,[]=>True
 |e,.pr p xs::is=>∃n t,e=n+1∧p.ev (xs.map (Lf.ev ρ))=some t∧ρ[n]?=some t∧bA S ρ n is
 |e,.cl g xs m::is=>∃n ts,e=n+m∧S g (xs.map (Lf.ev ρ))=some ts∧(∀i,i<m->ρ[n+i]?=some (ts.getD i T.cp))∧bA S ρ n is
def Wk.bA(S:Nat->af)(ρ:List T)(k:Wk):Prop:=Go.Proofs.YtjimmglpkndemaaGreatC.bA S ρ k.ct.a k.is
structure Wk.eP (k k':Wk):Prop where
 r:k'.r=k.r
 w:k'.w=k.w
 i:k'.ct.i=k.ct.i
theorem Wk.eP.refl(k:Wk):k.eP k:=⟨rfl,rfl,rfl⟩
theorem Wk.eP.trans{a b c:Wk}(h:a.eP b)(h':b.eP c):a.eP c:=⟨h'.r.trans h.r,h'.w.trans h.w,h'.i.trans h.i⟩
theorem Wk.eP.get{k k':Wk}(h:k.eP k')(r:bn):k'.get r=k.get r:=by simp[Wk.get,h.r,h.w]
section
variable {S:Nat->af} {ρ:List T}
theorem Wk.bF(k:Wk)(p:Prim)(xs:List Lf):k.eP (k.em p xs).1:=⟨rfl,rfl,rfl⟩
theorem Wk.bO{k:Wk}{p:Prim}{xs:List Lf}(h:(k.em p xs).1.bA S ρ):
  k.bA S ρ∧∃t,p.ev (xs.map (Lf.ev ρ))=some t∧(k.em p xs).2.fE ρ=some t:=by
 obtain⟨n,t,h1,h2,h3,h4⟩:=h
 have:n=k.ct.a:=by simp[Wk.em]at h1;omega
 subst this
 exact⟨h4,t,h2,h3⟩
def iw:List (Nat×Nat)->T->Option T
 | [],t=>some t
 |(i,j)::p,.l xs=>(dK xs i j).bind (iw p)
 |_,_=>none
theorem xM{x:Lf}{i:Nat}(h:lI ρ x=some i):∃k,(x.ev ρ)=.c (.int k i):=by
 unfold lI at h
 split at h
 ·rename_i k n hx
  split at h
  ·rename_i h0
   cases h
   exact⟨k,by rw[Lf.bM hx];congr 2;exact(Int.toNat_of_nonneg h0).symm⟩
  ·cases h
 ·cases h
theorem Ac{xs:List (List T)}{k:IntKind}{i:Nat}:uE (.l xs) (.c (.int k (i:Int)))=xs[i]?:=by
 simp[uE,T.rows,T.int]
theorem DT{x ix:Lf}{w j i:Nat}{xs:List (List T)}{t:T}(hx:x.fE ρ=some (.l xs))(hi:lI ρ ix=some i)
  (h:Prim.ev (.dJ w j) [x.ev ρ,ix.ev ρ]=some t):∃ys,t=.l ys∧dK xs i j=some (.l ys)∧∃r,xs[i]?=some r∧r.length=w:=by
 obtain⟨k,hk⟩:=xM hi
 rw[Lf.bM hx,hk]at h
 simp only[Prim.ev,Ac]at h
 cases hr:xs[i]? with
 |none=>simp[hr]at h
 |some r=>
  simp only[hr,Option.bind_some]at h
  split at h
  ·rename_i hl
   cases hj:r[j]? with
   |none=>simp[hj]at h
   |some u=>
    cases u with
    |c v=>simp[hj,T.rows]at h
    |l ys=>
     simp[hj,T.rows]at h
     exact⟨ys,h.symm,by simp[dK,hr,hj],r,rfl,hl⟩
  ·cases h
theorem Wk.ff:∀(q:mJ) (k:Wk) (x:Lf),k.eP (k.down x q).1
 | [],k,x=>.refl k
 |(ix,w,j)::q,k,x=>by
  simp only[Wk.down]
  exact(Wk.bF k _ _).trans (Wk.ff q _ _)
theorem Wk.kU:∀(q:mJ) (k:Wk) (x:Lf),(k.down x q).1.bA S ρ->k.bA S ρ
 | [],_,_,h=>h
 |(ix,w,j)::q,k,x,h=>(Wk.bO (Wk.kU q _ _ h)).1
theorem Wk.iJ:∀(q:mJ) (k:Wk) (x:Lf) {t:T} {p:List (Nat×Nat)},(k.down x q).1.bA S ρ->x.fE ρ=some t->gD ρ q=some p->
  (q=[]∨∃xs,t=.l xs)->∃u,iw p t=some u∧(k.down x q).2.fE ρ=some u∧(q=[]∨∃ys,u=.l ys)
 | [],k,x,t,p,h,hx,hp,_=>by
  simp only[gD]at hp
  cases hp
  exact⟨t,rfl,hx,.inl rfl⟩
 |(ix,w,j)::q,k,x,t,p,h,hx,hp,ht=>by
  simp only[Wk.down]at h⊢
  obtain⟨xs,rfl⟩:=ht.resolve_left (by simp)
  simp only[gD]at hp
  cases hi:lI ρ ix with
  |none=>simp[hi]at hp
  |some i=>
   cases hq:gD ρ q with
   |none=>simp[hi,hq]at hp
   |some p'=>
    simp[hi,hq]at hp
    subst hp
    obtain⟨_,u,hu,huv⟩:=Wk.bO (Wk.kU q _ _ h)
    obtain⟨ys,rfl,bE,_⟩:=DT hx hi hu
    obtain⟨v,hv,sA,hl⟩:=Wk.iJ q _ _ h huv hq (.inr ⟨ys,rfl⟩)
    refine⟨v,by simp[iw,bE,hv],sA,.inr ?_⟩
    rcases hl with rfl|hl
    ·simp only[gD]at hq
     cases hq
     simp[iw]at hv
     exact⟨ys,hv.symm⟩
    ·exact hl
def er(ω:Nat->Option Lb):Nat->Option Lb:=λb=>match ω b with
 |some (.x i)=>some (.x i)
 |some .f=>some .f
 |_=>none
theorem ad1{ω:Nat->Option Lb}{b:Nat}(h:ω b=none):er ω b=none:=by simp[er,h]
theorem Qo{G:Gh}{b:Nat}(h:G.q b=none):er G.ω b=none:=by
 rcases Ql h with h0|⟨l,h1,h2⟩
 ·exact ad1 h0
 ·cases l with
  |o i p=>simp[er,h1]
  |_=>simp[qt]at h2
theorem eM.er{G:Gh}{w:World}{t:T}{c:Value}(h:eM G.q w t c):eM (er G.ω) w t c:=
 by
 induction h with
 |c h=>exact .c h
 |nil=>exact .nil
 |l hw hc hb be h1 h2 ih=>exact .l hw hc (Qo hb) be h1 ih
theorem xN{w:World}{b:Nat}{bT:Array Value}{elem:TypeId}{fz:Nat×Nat}(h:w.heap[b]?=some (.cells bT elem fz))(off:Nat):
  w.cell? ⟨b,off,none⟩=bT[off]?:=by
 simp[World.cell?,h]
theorem OT{w:World}{b:Nat}{o:Obj}(h:w.heap[b]?=some o):b<w.heap.size:=(Array.getElem?_eq_some_iff.1 h).1
theorem wD{xs:List (List T)}{i j:Nat}{t:T}(h:dK xs i j=some t):∃r,xs[i]?=some r∧r∈xs∧r[j]?=some t∧i<xs.length∧j<r.length:=by
 unfold dK at h
 cases hr:xs[i]? with
 |none=>simp[hr]at h
 |some r=>
  simp[hr]at h
  exact⟨r,rfl,List.mem_of_getElem? hr,h,(List.getElem?_eq_some_iff.1 hr).1,(List.getElem?_eq_some_iff.1 h).1⟩
theorem eX.den{G:Gh}{w:World}{id:Nat}{dp:Bool}{p:List (Nat×Nat)}{t:T}(h:eX G w id dp p t):eM (er G.ω) w t (G.H id p):=by
 induction h with
 |nil h=>rw[h];exact .nil
 | @l dp p xs b wd cap bT elem cv h1 h2 h3 h4 h5 h6 h7 h8 h9 nz _ ih=>
  rw[h1]
  refine .l (cv:=cv) h6 h2.1 (by simp[er,h3]) (OT h4) (λi j t ht=>?_) λi j t ht=>?_
  ·rw[xN h4,Nat.zero_add];exact h7 i j t ht
  ·cases t with
   |c v=>obtain⟨hv,hs⟩:=h8 i j v ht;rw[hv];exact .c hs
   |l ys=>
    cases hd:dp with
    |false=>exact(h9 i j ys ht hd).er
    |true=>rw[nz i j ys ht hd];exact ih i j ys ht hd
theorem eX.Qp{G:Gh}{w:World}{id:Nat}{dp:Bool}{p:List (Nat×Nat)}{t:T}(h:eX G w id dp p t)(hi:id%4=2∨(id%2=0∧p≠[]))(gA:dp=true):eM G.q w t (G.H id p):=by
 induction h with
 |nil h=>rw[h];exact .nil
 | @l dp p xs b wd cap bT elem cv h1 h2 h3 h4 h5 h6 h7 h8 h9 nz wE ih=>
  rw[h1]
  refine .l (cv:=cv) h6 h2.1 (Qk h3 (hi.elim IP λh=>vx h.1 h.2)) (OT h4) (λi j t ht=>?_) λi j t ht=>?_
  ·rw[xN h4,Nat.zero_add];exact h7 i j t ht
  ·cases t with
   |c v=>obtain⟨hv,hs⟩:=h8 i j v ht;rw[hv];exact .c hs
   |l ys=>rw[nz i j ys ht gA];exact ih i j ys ht gA (hi.imp_right λh=>⟨h.1,by simp⟩) rfl
theorem eX.dJ{G:Gh}{w:World}{id:Nat}:∀(q:List (Nat×Nat)) {p:List (Nat×Nat)} {t u:T},eX G w id true p t->iw q t=some u->(∃ys,u=.l ys)->
  eX G w id true (p++q) u
 | [],p,t,u,h,hd,_=>by simp only[iw]at hd;cases hd;simpa using h
 |(i,j)::q,p,t,u,h,hd,hu=>by
  cases h with
  |nil=>simp[iw,dK]at hd
  | @l _ _ xs b wd cap bT elem cv h1 h2 h3 h4 h5 h6 h7 h8 h9 nz wE=>
   simp only[iw]at hd
   cases ha:dK xs i j with
   |none=>simp[ha]at hd
   |some v=>
    simp only[ha,Option.bind_some]at hd
    cases v with
    |c v=>
     cases q with
     |nil=>simp[iw]at hd;obtain⟨ys,rfl⟩:=hu;cases hd
     |cons a q=>simp[iw]at hd
    |l ys=>
     have:=eX.dJ q (wE i j ys ha rfl) hd hu
     simpa using this
theorem Wk.dO{k k':Wk}{c:Ce}{x:Lf}(h:k.val c=some (k',x)):k.eP k':=by
 cases c with
 |p y=>simp[Wk.val]at h;obtain⟨rfl,_⟩:=h;exact .refl _
 |n=>simp[Wk.val]at h;obtain⟨rfl,_⟩:=h;exact .refl _
 |d=>simp[Wk.val]at h
 |o id q=>
  simp only[Wk.val]at h
  split at h
  ·simp only[br]at h
   have e1:=congrArg Prod.fst h
   simp only at e1
   subst e1
   exact Wk.ff q k _
  ·split at h
   ·simp at h;obtain⟨rfl,_⟩:=h;exact .refl _
   ·cases h
  ·split at h
   ·simp at h;obtain⟨rfl,_⟩:=h;exact .refl _
   ·cases h
  ·split at h
   ·simp at h;obtain⟨rfl,_⟩:=h;exact .refl _
   ·cases h
  ·cases h
theorem Wk.lJ{k k':Wk}{c:Ce}{x:Lf}(h:k.val c=some (k',x))(hd:k'.bA S ρ):k.bA S ρ:=by
 cases c with
 |p y=>simp[Wk.val]at h;obtain⟨rfl,_⟩:=h;exact hd
 |n=>simp[Wk.val]at h;obtain⟨rfl,_⟩:=h;exact hd
 |d=>simp[Wk.val]at h
 |o id q=>
  simp only[Wk.val]at h
  split at h
  ·simp only[br]at h
   have e1:=congrArg Prod.fst h
   simp only at e1
   subst e1
   exact Wk.kU q _ _ hd
  ·split at h
   ·simp at h;obtain⟨rfl,_⟩:=h;exact hd
   ·cases h
  ·split at h
   ·simp at h;obtain⟨rfl,_⟩:=h;exact hd
   ·cases h
  ·split at h
   ·simp at h;obtain⟨rfl,_⟩:=h;exact hd
   ·cases h
  ·cases h
theorem Wk.kV{k k':Wk}{c:Ce}{x:Lf}{G:Gh}{w:World}{v:Value}(h:k.val c=some (k',x))(hd:k'.bA S ρ)
  (hr:fT G w ρ c v)(ho:∀id,id∈dF [c]->cE G w ρ id (k.get (.o id))):∃t,x.fE ρ=some t∧eM (er G.ω) w t v:=by
 cases c with
 |p y=>simp[Wk.val]at h;obtain⟨_,rfl⟩:=h;obtain⟨t,h1,h2⟩:=hr;exact⟨t,h1,h2.er⟩
 |n=>simp[Wk.val]at h;obtain⟨_,rfl⟩:=h;cases hr;exact⟨_,rfl,.nil⟩
 |d=>simp[Wk.val]at h
 |o id q=>
  have ei:=ho id (by simp[dF])
  obtain⟨p,hp,rfl⟩:=hr
  simp only[Wk.val]at h
  split at h
  ·rename_i y hk
   simp only[hk,cE]at ei
   obtain⟨t,ht,bI⟩:=ei
   simp only[br]at h
   have e1:=congrArg Prod.fst h
   have e2:=congrArg Prod.snd h
   simp only at e1 e2
   subst e1 e2
   have hl:∃ys,t=.l ys:=by cases bI<;>exact⟨_,rfl⟩
   obtain⟨u,hu,hxu,ke⟩:=Wk.iJ q k y hd ht (ta hp) (.inr hl)
   refine⟨u,hxu,?_⟩
   have Qq:∃ys,u=.l ys:=by
    rcases ke with rfl|h'
    ·simp only[l7]at hp;cases hp;simp[iw]at hu;subst hu;exact hl
    ·exact h'
   have:=(eX.dJ p bI hu Qq).den
   simpa using this
  ·rename_i y hk
   split at h
   ·simp at h
    obtain⟨_,rfl⟩:=h
    simp only[hk,cE]at ei
    obtain⟨t,ht,bI⟩:=ei
    simp only[l7]at hp;cases hp
    exact⟨t,ht,bI.den⟩
   ·cases h
  ·rename_i y hk
   split at h
   ·simp at h
    obtain⟨_,rfl⟩:=h
    simp only[hk,cE]at ei
    obtain⟨t,ht,bI,_⟩:=ei
    simp only[l7]at hp;cases hp
    exact⟨t,ht,bI.er⟩
   ·cases h
  ·rename_i y hk
   split at h
   ·simp at h
    obtain⟨_,rfl⟩:=h
    simp only[hk,cE]at ei
    obtain⟨_,t,ht,bI⟩:=ei
    simp only[l7]at hp;cases hp
    exact⟨t,ht,bI.den⟩
   ·cases h
  ·cases h
end
section
variable {M:Nat->Prop} {B:eI} {d:Nat} {up:Nat->Nat->Value} {s:St} {ρ:List T} {G:Gh} {a:Act} {w:World}
theorem Rel.forget(h:Rel M B d up s ρ G a w){s':St}(hs:∀r,s'.get r=s.get r∨s'.get r=.un):Rel M B d up s' ρ G a w:=by
 refine⟨λe n he=>?_,λb=>?_,λi=>?_,λr i hi=>?_,λi hi=>?_,h.ia,h.dn,h.base,h.bt⟩
 ·rcases hs (.t e n)with hr|hr
  ·rw[hr];exact h.tm e n he
  ·rw[hr];trivial
 ·rcases hs (.x b)with hr|hr
  ·rw[hr];exact h.bx b
  ·rw[hr];trivial
 ·rcases hs (.o i)with hr|hr
  ·rw[hr];exact h.ob i
  ·rw[hr];trivial
 ·rcases hs r with hr|hr
  ·rw[hr]at hi;exact h.fQ r i hi
  ·rw[hr]at hi;simp[de]at hi
 ·refine h.key i ?_
  rcases hi with hi|hi
  ·rcases hs (.x i)with hr|hr
   ·exact .inl (hr▸hi)
   ·exact absurd hr hi
  ·rcases hs (.o i)with hr|hr
   ·exact .inr (hr▸hi)
   ·exact absurd hr hi
theorem Rel.congr(h:Rel M B d up s ρ G a w){s':St}(hs:∀r,s'.get r=s.get r):Rel M B d up s' ρ G a w:=h.forget λr=>.inl (hs r)
def Gh.free(G:Gh)(id:Nat)(all:Bool):Gh:=
 {G with ω:=λb=>match G.ω b with
   |some (.o i p)=>if i=id∧(all=true∨p≠[])then none else some (.o i p)
   |l=>l}
theorem Gh.jH{G:Gh}{id b:Nat}{all:Bool}(h:G.ω b=none):(G.free id all).ω b=none:=by simp[Gh.free,h]
theorem Gh.tc{G:Gh}{id b i:Nat}{p:List (Nat×Nat)}{all:Bool}(h:G.ω b=some (.o i p))(hi:i=id)(ha:all=true∨p≠[]):(G.free id all).ω b=none:=by
 simp only[Gh.free,h]
 rw[if_pos ⟨hi,ha⟩]
theorem Gh.rA{G:Gh}{id b:Nat}{all:Bool}(h:G.q b=none):(G.free id all).q b=none:=by
 refine s_ h Gh.jH λl hl hq=>?_
 cases l with
 |o i p=>
  simp only[Gh.free,hl]
  split
  ·exact .inl rfl
  ·exact .inr ⟨_,rfl,hq⟩
 |_=>simp[qt]at hq
theorem Gh.fg(G:Gh)(id:Nat)(all:Bool)(w:World):di (λl=>∃p,l=.o id p) (λ_=>False) G w (G.free id all) w:=by
 refine⟨Nat.le_refl _,λb _ hb=>⟨Gh.rA hb,rfl⟩,λb _ hb=>Gh.jH hb,λb l hb hl=>⟨?_,rfl⟩,λ_ _=>⟨rfl,λ_ _=>rfl⟩⟩
 cases l with
 |f=>simp[Gh.free,hb]
 |x i=>simp[Gh.free,hb]
 |o i p=>
  have:i≠id:=λe=>hl ⟨p,by rw[e]⟩
  simp[Gh.free,hb,this]
theorem eX.Ad{id:Nat}{p:List (Nat×Nat)}{t:T}{dp:Bool}(h:eX G w id dp p t)(hp:p≠[])(gA:dp=true):eM (G.free id false).q w t (G.H id p):=by
 induction h with
 |nil h=>rw[h];exact .nil
 | @l dp p xs b wd cap bT elem cv h1 h2 h3 h4 h5 h6 h7 h8 h9 nz wE ih=>
  rw[h1]
  refine .l (cv:=cv) h6 h2.1 (z' (Gh.tc h3 rfl (.inr hp))) (OT h4) (λi j t ht=>?_) λi j t ht=>?_
  ·rw[xN h4,Nat.zero_add];exact h7 i j t ht
  ·cases t with
   |c v=>obtain⟨hv,hs⟩:=h8 i j v ht;rw[hv];exact .c hs
   |l ys=>rw[nz i j ys ht gA];exact ih i j ys ht gA (by simp) rfl
theorem eX.wF{id:Nat}{p:List (Nat×Nat)}{t:T}{dp:Bool}(h:eX G w id dp p t):eM (G.free id true).q w t (G.H id p):=by
 induction h with
 |nil h=>rw[h];exact .nil
 | @l dp p xs b wd cap bT elem cv h1 h2 h3 h4 h5 h6 h7 h8 h9 nz wE ih=>
  rw[h1]
  refine .l (cv:=cv) h6 h2.1 (z' (Gh.tc h3 rfl (.inl rfl))) (OT h4) (λi j t ht=>?_) λi j t ht=>?_
  ·rw[xN h4,Nat.zero_add];exact h7 i j t ht
  ·cases t with
   |c v=>obtain⟨hv,hs⟩:=h8 i j v ht;rw[hv];exact .c hs
   |l ys=>
    cases hd:dp with
    |false=>exact(h9 i j ys ht hd).aY (Nat.le_refl _) λb _ hb=>⟨Gh.rA hb,rfl⟩
    |true=>rw[nz i j ys ht hd];exact ih i j ys ht hd
theorem Rel.lQ(h:Rel M B d up s ρ G a w){id:Nat}{dp:Bool}{x:Lf}(hx:s.get (.o id)=.ob dp x):
  Rel M B d up (s.set (.o id) (.fz .z x)) ρ (G.free id true) a w:=by
 have k:=G.fg id true w
 have hg:∀r,r≠.o id->(s.set (.o id) (.fz .z x)).get r=s.get r:=λr hr=>St.eh _ _ (Ne.symm hr)
 refine⟨λe n he=>?_,λb=>?_,λi=>?_,λr i hi=>?_,λi hi=>?_,λb l hb=>?_,h.dn,?_,h.bt⟩
 ·rw[hg _ (by simp)];exact(h.tm e n he).aY k λ_ _ hn=>hn
 ·rw[hg _ (by simp)]
  exact(h.bx b).aY k (λ⟨p,hp⟩=>by cases hp) (λhn=>hn) λ_ _ hn=>hn
 ·by_cases hi:i=id
  ·subst hi
   rw[St.cg]
   obtain⟨t,ht,ho⟩:=(by simpa only[hx]using h.ob i:cE G w ρ i (.ob dp x))
   exact⟨t,ht,ho.wF,trivial⟩
  ·rw[hg _ (by simpa using hi)];exact(h.ob i).aY k (λp ⟨q,hq⟩=>hi (by cases hq;rfl)) (λhn=>hn) λ_ _ hn=>hn
 ·by_cases hr:r=.o id
  ·subst hr;rw[St.cg]at hi;simp[de]at hi
  ·rw[hg r hr]at hi;exact h.fQ r i hi
 ·refine h.key i ?_
  rcases hi with hi|hi
  ·exact .inl (by rwa[hg _ (by simp)]at hi)
  ·by_cases rB:i=id
   ·subst rB;exact .inr (by rw[hx];simp)
   ·exact .inr (by rwa[hg _ (by simpa using rB)]at hi)
 ·refine h.ia b l ?_
  simp only[Gh.free]at hb
  split at hb
  ·split at hb
   ·cases hb
   ·rename_i hw _;rw[hw];exact hb
  ·exact hb
 ·refine⟨h.base.os,h.base.tape,h.base.output,h.base.size,λb hb h0=>?_,λb hb=>?_,h.base.gl⟩
  ·obtain⟨h1,h2⟩:=h.base.free b hb h0
   exact⟨Gh.jH h1,h2⟩
  ·obtain⟨h1,h2⟩:=h.base.CL b hb
   exact⟨by simp[Gh.free,h1],h2⟩
theorem Rel.flat(h:Rel M B d up s ρ G a w){id:Nat}{dp:Bool}{x:Lf}(hx:s.get (.o id)=.ob dp x):
  Rel M B d up (s.set (.o id) (.ob false x)) ρ (G.free id false) a w:=by
 have k:=G.fg id false w
 have hg:∀r,r≠.o id->(s.set (.o id) (.ob false x)).get r=s.get r:=λr hr=>St.eh _ _ (Ne.symm hr)
 refine⟨λe n he=>?_,λb=>?_,λi=>?_,λr i hi=>?_,λi hi=>?_,λb l hb=>?_,h.dn,?_,h.bt⟩
 ·rw[hg _ (by simp)];exact(h.tm e n he).aY k λ_ _ hn=>hn
 ·rw[hg _ (by simp)]
  exact(h.bx b).aY k (λ⟨p,hp⟩=>by cases hp) (λhn=>hn) λ_ _ hn=>hn
 ·by_cases hi:i=id
  ·subst hi
   rw[St.cg]
   obtain⟨t,ht,ho⟩:=(by simpa only[hx]using h.ob i:cE G w ρ i (.ob dp x))
   refine⟨t,ht,?_⟩
   cases ho with
   |nil h=>exact .nil h
   | @l _ _ xs b wd cap bT elem cv h1 h2 h3 h4 h5 h6 h7 h8 h9 nz wE=>
    refine .l (cv:=cv) h1 h2 (by simp[Gh.free,h3]) h4 h5 h6 h7 h8 (λp j ys hy _=>?_) (λ_ _ _ _ hf=>by cases hf) (λ_ _ _ _ hf=>by cases hf)
    cases hd:dp with
    |false=>exact(h9 p j ys hy hd).aY (Nat.le_refl _) λb _ hb=>⟨Gh.rA hb,rfl⟩
    |true=>rw[nz p j ys hy hd];exact(wE p j ys hy hd).Ad (by simp) rfl
  ·rw[hg _ (by simpa using hi)];exact(h.ob i).aY k (λp ⟨q,hq⟩=>hi (by cases hq;rfl)) (λhn=>hn) λ_ _ hn=>hn
 ·by_cases hr:r=.o id
  ·subst hr;rw[St.cg]at hi;simp[de]at hi
  ·rw[hg r hr]at hi;exact h.fQ r i hi
 ·refine h.key i ?_
  rcases hi with hi|hi
  ·exact .inl (by rwa[hg _ (by simp)]at hi)
  ·by_cases rB:i=id
   ·subst rB;exact .inr (by rw[hx];simp)
   ·exact .inr (by rwa[hg _ (by simpa using rB)]at hi)
 ·refine h.ia b l ?_
  simp only[Gh.free]at hb
  split at hb
  ·split at hb
   ·cases hb
   ·rename_i hw _;rw[hw];exact hb
  ·exact hb
 ·refine⟨h.base.os,h.base.tape,h.base.output,h.base.size,λb hb h0=>?_,λb hb=>?_,h.base.gl⟩
  ·obtain⟨h1,h2⟩:=h.base.free b hb h0
   exact⟨Gh.jH h1,h2⟩
  ·obtain⟨h1,h2⟩:=h.base.CL b hb
   exact⟨by simp[Gh.free,h1],h2⟩
end
def vz:List Ce->List Value->Bool
 | [],[]=>true
 | .p (.k (.int k n))::cs,.int k' n'::vs=>decide (k=k')&&decide (n=n')&&vz cs vs
 | .p (.k (.bool b))::cs,.bool b'::vs=>decide (b=b')&&vz cs vs
 | .p (.k (.string x))::cs,.string x'::vs=>decide (x=x')&&vz cs vs
 | .n::cs,.slice none 0 0::vs=>vz cs vs
 |_,_=>false
def xO(P:Program):List (Nat×Nat)->List Field->Bool
 | [],[]=>true
 |o::os,f::fs=>Nat.beq f.offset o.1&&(match P.info? f.type with|some i=>!Nat.beq i.size 0&&Nat.beq i.size o.2|none=>false)&&xO P os fs
 |_,_=>false
def rC(P:Program):Nat->List Ce->List Field->Bool
 |_,[],[]=>true
 |i,z::zs,f::fs=>Nat.beq f.offset i&&decide (f.name≠"_")&&(match P.underlying f.type with|some (.int _)=>Nat.beq (lR z) 1|some .bool=>Nat.beq (lR z) 4|some .string=>Nat.beq (lR z) 2|_=>false)&&rC P (i+1) zs fs
 |_,_,_=>false
def tyB(P:Program)(t:Nat)(ti:TI):Bool:=
 match P.info? t,P.underlying t with
 |some i,some u=>
  Nat.beq i.size ti.sz&&Nat.beq i.bytes ti.bytes&&(match i.zero with|some z=>vz ti.zero z.cells.toList|none=>false)&&Nat.beq ti.zero.length ti.sz&&
  (match u with
   | .struct fs=>ti.ag&&(Nat.beq ti.kd 0||(Nat.beq ti.kd 5&&Nat.beq fs.size ti.sz&& !P.stoodInHeld t&& !P.eqGuardType P.depth t&&rC P 0 ti.zero fs.toList))&&xO P ti.fs fs.toList
   | .array ..=>false
   | .slice e=>!ti.ag&&Nat.beq ti.sz 1&&Nat.beq ti.kd 3&&Nat.beq e ti.el&&ti.fs.isEmpty
   | .int kk=>!ti.ag&&Nat.beq ti.sz 1&&Nat.beq ti.kd 1&&(match ti.zero with| [.p (.k (.int k' _))]=>decide (kk=k')|_=>false)&&ti.fs.isEmpty
   | .string=>!ti.ag&&Nat.beq ti.sz 1&&Nat.beq ti.kd 2&&ti.fs.isEmpty
   | .bool=>!ti.ag&&Nat.beq ti.sz 1&&Nat.beq ti.kd 4&&ti.fs.isEmpty
   |_=>!ti.ag&&Nat.beq ti.sz 1&&Nat.beq ti.kd 0&&ti.fs.isEmpty)
 |_,_=>false
def Ae:List Ce->List Value->Prop
 | [],[]=>True
 | .p (.k v)::cs,v'::vs=>v=v'∧j_ v=true∧Ae cs vs
 | .n::cs,v::vs=>v=.slice none 0 0∧Ae cs vs
 |_,_=>False
theorem ad3:∀{cs:List Ce} {vs:List Value},vz cs vs=true->Ae cs vs:=by
 intro cs
 induction cs with
 |nil=>intro vs h;cases vs<;>simp_all[vz,Ae]
 |cons c cs ih=>
  intro vs h
  cases vs with
  |nil=>cases c<;>simp_all[vz]
  |cons v vs=>
   cases c with
   |p x=>
    cases x with
    |k u=>
     cases u<;>cases v<;>simp_all[vz,Ae,j_]
    |a n=>simp[vz]at h
    |e=>simp[vz]at h
   |o id q=>simp[vz]at h
   |n=>
    cases v with
    |slice a l c=>
     unfold vz at h
     split at h<;>simp_all[Ae]
    |_=>simp[vz]at h
   |d=>simp[vz]at h
structure td (P:Program) (t:Nat) (ti:TI):Prop where
 info:∃i z,P.info? t=some i∧i.size=ti.sz∧i.bytes=ti.bytes∧i.zero=some z∧Ae ti.zero z.cells.toList
 DU:ti.zero.length=ti.sz
 one:ti.ag=false->ti.sz=1
 ag:∃u,P.underlying t=some u∧(ti.ag=true↔∃fs,u=.struct fs)∧(∀n e,u≠.array n e)
 sl:ti.kd=3->P.underlying t=some (.slice ti.el)
 it:ti.kd=1->∃k,P.underlying t=some (.int k)
 st:ti.kd=2->P.underlying t=some .string
 ik:ti.kd=1->∀k n,ti.zero=[.p (.k (.int k n))]->P.underlying t=some (.int k)
 bo:ti.kd=4->P.underlying t=some .bool
 ni:ti.kd≠1->∀k,P.underlying t≠some (.int k)
 fs:∀(f:Nat) (o:Nat×Nat),ti.fs[f]?=some o->∃(fs:Array Field) (zl:Field) (i:TypeInfo),P.underlying t=some (.struct fs)∧fs[f]?=some zl∧zl.offset=o.1∧P.info? zl.type=some i∧i.size≠0∧i.size=o.2
 fl:∀fs,P.underlying t=some (.struct fs)->fs.size=ti.fs.length
 eq:ti.kd=5->∃fs:Array Field,P.underlying t=some (.struct fs)∧fs.size=ti.sz∧P.stoodInHeld t=false∧P.eqGuardType P.depth t=false∧rC P 0 ti.zero fs.toList=true
theorem IU{P:Program}:∀{os:List (Nat×Nat)} {fs:List Field},xO P os fs=true->fs.length=os.length∧∀(f:Nat) (o:Nat×Nat),os[f]?=some o->
  ∃(zl:Field) (i:TypeInfo),fs[f]?=some zl∧zl.offset=o.1∧P.info? zl.type=some i∧i.size≠0∧i.size=o.2
 | [],[],_=>⟨rfl,λf o h=>by simp at h⟩
 | [],_::_,h=>by simp[xO]at h
 |o::os,[],h=>by simp[xO]at h
 |o::os,fl::fs,h=>by
  simp only[xO,bk]at h
  obtain⟨⟨h1,h2⟩,h3⟩:=h
  obtain⟨hl,hr⟩:=IU h3
  refine⟨by simp[hl],λf o' hf=>?_⟩
  cases f with
  |zero=>
   simp at hf
   subst hf
   cases hi:P.info? fl.type with
   |none=>simp[hi]at h2
   |some i=>
    simp only[hi,bk]at h2
    exact⟨fl,i,rfl,dN h1,hi,λe=>by simp[e]at h2,dN h2.2⟩
  |succ f=>exact hr f o' (by simpa using hf)
theorem ad4{P:Program}{t:Nat}{ti:TI}(h:tyB P t ti=true):td P t ti:=by
 unfold tyB at h
 split at h
 ·rename_i i u hi hu
  simp only[bk]at h
  obtain⟨⟨⟨⟨h1,h2⟩,h3⟩,h4⟩,h5⟩:=h
  have z:∃z,i.zero=some z∧Ae ti.zero z.cells.toList:=by
   split at h3
   ·rename_i z hz;exact⟨z,hz,ad3 h3⟩
   ·cases h3
  obtain⟨z,hz,xP⟩:=z
  refine⟨⟨i,z,hi,dN h1,dN h2,hz,xP⟩,dN h4,?_,⟨u,hu,?_,?_⟩,?_,?_,?_,?_,?_,?_,?_,?_,?_⟩
  ·intro ha;split at h5<;>simp_all
  ·split at h5<;>simp_all
  ·intro n e dk;subst dk;simp at h5
  ·intro hk;rw[hu];split at h5<;>simp_all
  ·intro hk;rw[hu];split at h5<;>simp_all
  ·intro hk;rw[hu];split at h5<;>simp_all
  ·intro hk k n hz
   rw[hu]
   rw[hz,hk]at h5
   split at h5
   ·simp only[bk,Bool.or_eq_true]at h5
    obtain⟨⟨_,h6⟩,_⟩:=h5
    rcases h6 with h6|⟨⟨⟨⟨h6,_⟩,_⟩,_⟩,_⟩<;>exact absurd h6 (by decide)
   ·cases h5
   ·simp only[bk]at h5
    exact absurd h5.1.1.2 (by decide)
   ·simp only[bk,decide_eq_true_eq]at h5
    rw[h5.1.2]
   all_goals
    simp only[bk]at h5
    exact absurd h5.1.2 (by decide)
  ·intro hk;rw[hu];split at h5<;>simp_all
  ·intro hk k dk;rw[hu]at dk;cases dk;simp at h5;exact hk h5.1.1.2
  ·intro f o hf
   rw[hu]
   split at h5
   ·rename_i fs
    simp only[bk]at h5
    obtain⟨zl,i',h6,h7⟩:=(IU h5.2).2 f o hf
    exact⟨fs,zl,i',rfl,by simpa using h6,h7⟩
   ·cases h5
   all_goals
    simp only[bk,List.isEmpty_iff]at h5
    rw[h5.2]at hf
    simp at hf
  ·intro fs uI
   rw[hu]at uI
   cases uI
   simp only[bk]at h5
   have:=(IU h5.2).1
   simpa using this
  ·intro hk
   rw[hu]
   split at h5
   ·rename_i fs
    simp only[bk,Bool.or_eq_true,Bool.not_eq_true']at h5
    obtain⟨⟨_,h6⟩,_⟩:=h5
    rcases h6 with h6|⟨⟨⟨⟨_,h7⟩,h8⟩,h9⟩,nz⟩
    ·have:=dN h6;omega
    ·exact⟨fs,rfl,dN h7,h8,h9,nz⟩
   ·cases h5
   all_goals
    simp[hk]at h5
 ·cases h
section
variable {M:Nat->Prop} {B:eI} {d:Nat} {up:Nat->Nat->Value} {ρ:List T} {G:Gh} {a:Act} {w:World} {S:Nat->af}
structure dh (M:Nat->Prop) (B:eI) (d:Nat) (up:Nat->Nat->Value) (ρ:List T) (G:Gh) (a:Act) (w:World) (k:Wk) (G1:Gh):Prop where
 rel:Rel M B d up (k.r.fe k.w) ρ G1 a w
 aY:di (oA k.w) (λ_=>False) G w G1 w
theorem Wk.aS(k:Wk)(r:bn):k.get r=(k.r.fe k.w).get r:=by
 rw[St.aS]
 unfold Wk.get
 cases k.w.look r<;>rfl
theorem Hw{W:St}{r:bn}{v:SV}{l:Lb}(h:oA W l):oA (W.set r v) l:=by
 cases l with
 |f=>exact h
 |x b=>
  show(W.set r v).look (.x b)≠none
  by_cases hr:r=.x b
  ·subst hr;rw[St.bg];simp
  ·rw[St.cz _ _ hr];exact h
 |o i p=>
  show(W.set r v).look (.o i)≠none
  by_cases hr:r=.o i
  ·subst hr;rw[St.bg];simp
  ·rw[St.cz _ _ hr];exact h
theorem Hx(s W:St)(r:bn)(v:SV)(r':bn):(s.fe (W.set r v)).get r'=((s.fe W).set r v).get r':=by
 rw[St.aS]
 by_cases h:r=r'
 ·subst h;rw[St.bg,St.cg];rfl
 ·rw[St.cz _ _ h,St.eh _ _ h,St.aS]
theorem dh.start{s:St}(h:Rel M B d up s ρ G a w)(R:List bn)(ct:Ct):dh M B d up ρ G a w ⟨s.only R,[],ct,[]⟩ G:=by
 refine⟨h.forget λr=>?_,(di.refl G w).mono (λ_ h=>h.elim) λ_ h=>h⟩
 by_cases hr:r∈R
 ·exact .inl (St.Ab s R hr)
 ·exact .inr (St.rz s R hr)
theorem dh.same{k k':Wk}{G1:Gh}(h:dh M B d up ρ G a w k G1)(hs:k.eP k'):dh M B d up ρ G a w k' G1:=by
 obtain⟨h1,h2,h3⟩:=hs
 exact⟨by rw[h1,h2];exact h.rel,by rw[h2];exact h.aY⟩
theorem dh.obj{k:Wk}{G1:Gh}(h:dh M B d up ρ G a w k G1)(id:Nat):cE G1 w ρ id (k.get (.o id)):=by
 rw[Wk.aS];exact h.rel.ob id
theorem dh.lQ{k k':Wk}{G1:Gh}(h:dh M B d up ρ G a w k G1){id:Nat}(hk:k.lQ id=some k'):
  ∃G2,dh M B d up ρ G a w k' G2∧G2.β=G1.β∧G2.H=G1.H∧k'.r=k.r∧k'.ct=k.ct∧k'.is=k.is:=by
 unfold Wk.lQ at hk
 split at hk
 ·rename_i dp x hx
  cases hk
  rw[Wk.aS]at hx
  refine⟨_,⟨(h.rel.lQ hx).congr (Hx _ _ _ _),(h.aY.mono (λl hl=>Hw hl) λ_ hn=>hn).trans ((G1.fg id true w).mono ?_ λ_ hn=>hn)⟩,rfl,rfl,rfl,rfl,rfl⟩
  rintro l ⟨p,rfl⟩
  show(k.w.set _ _).look (.o id)≠none
  rw[St.bg];simp
 ·cases hk;exact⟨G1,h,rfl,rfl,rfl,rfl,rfl⟩
 ·cases hk
theorem dh.flat{k k':Wk}{G1:Gh}(h:dh M B d up ρ G a w k G1){id:Nat}(hk:k.flat id=some k'):
  ∃G2,dh M B d up ρ G a w k' G2∧G2.β=G1.β∧G2.H=G1.H∧k'.r=k.r∧k'.ct=k.ct∧k'.is=k.is:=by
 unfold Wk.flat at hk
 split at hk
 ·rename_i dp x hx
  cases hk
  rw[Wk.aS]at hx
  refine⟨_,⟨(h.rel.flat hx).congr (Hx _ _ _ _),(h.aY.mono (λl hl=>Hw hl) λ_ hn=>hn).trans ((G1.fg id false w).mono ?_ λ_ hn=>hn)⟩,rfl,rfl,rfl,rfl,rfl⟩
  rintro l ⟨p,rfl⟩
  show(k.w.set _ _).look (.o id)≠none
  rw[St.bg];simp
 ·cases hk;exact⟨G1,h,rfl,rfl,rfl,rfl,rfl⟩
 ·cases hk
def bJ(P:Program)(M:Nat->Prop)(B:eI)(d:Nat)(up:Nat->Nat->Value)(ρ:List T)(a:Act)(w:World)(s:St)(o:Oper)(W:St)(Q:Exit->Act->World->Prop):Prop:=
 o.wp P a w (λa' w'=>∃G',Rel M B d up (s.fe W) ρ G' a' w'∧a'.tmps.size=a.tmps.size) Q
theorem Af(a:Act)(dst:Option Nat)(v:Value):(a.put dst v).tmps.size=a.tmps.size:=by
 cases dst<;>simp[Act.put]
theorem ad5{P:Program}{s:St}{k:Wk}{G1:Gh}(h:Rel M B d up s ρ G a w)(hk:dh M B d up ρ G a w k G1){o:Oper}{n:Nat}(ho:o.dst=some n)(hn:n<a.tmps.size)
  {v:Value}(hx:(execOp a.eval o).run P w=.ok (.value v) w){x:SV}(hv:cD G1 w ρ x v)(hm:∀i∈de x,M i)(Q:Exit->Act->World->Prop):
  bJ P M B d up ρ a w s o (k.w.set (.t d n) x) Q:=by
 simp only[bJ,Oper.wp,hx,Oper.upon,ho]
 refine⟨G1,h.glue (s':=k.r) (hk.aY.mono (λl hl=>Hw hl) λ_ hf=>hf) (λ_ hf=>hf.elim) (λ_ hm=>hm) ?_ ?_,Af _ _ _⟩
 ·intro m pE;cases pE;rw[St.bg];simp
 ·exact(hk.rel.DS hn hv hm).congr (Hx _ _ _ _)
theorem ad6{P:Program}{s:St}{k:Wk}{G1:Gh}(h:Rel M B d up s ρ G a w)(hk:dh M B d up ρ G a w k G1){o:Oper}(ho:o.dst=none)
  {v:Value}(hx:(execOp a.eval o).run P w=.ok (.value v) w)(Q:Exit->Act->World->Prop):
  bJ P M B d up ρ a w s o k.w Q:=by
 simp only[bJ,Oper.wp,hx,Oper.upon,ho]
 exact⟨G1,h.glue (s':=k.r) (dst:=none) (hk.aY.mono (λl hl=>hl) λ_ hf=>hf) (λ_ hf=>hf.elim) (λ_ hm=>hm) (λ_ hf=>by cases hf) hk.rel,rfl⟩
theorem ad7{v:Value}:cD G w ρ (zO v) v:=by
 unfold zO
 split
 ·exact⟨_,rfl,rfl,λ_ h=>by cases h⟩
 ·rename_i dk
  cases hs:j_ v with
  |false=>trivial
  |true=>
   refine⟨_,rfl,⟨.c v,by simp[Lf.fE,hs],.c hs⟩,λx h=>?_⟩
   subst h;simp[j_]at hs
theorem ad8{v:Value}:de (zO v)=[]:=by
 unfold zO
 split
 ·rfl
 ·cases j_ v<;>rfl
theorem CM{s:St}(h:Rel M B d up s ρ G a w)(x:Operand):cD G w ρ (ch d s.get x) (a.eval x)∧∀i∈de (ch d s.get x),M i:=by
 cases x with
 |tmp t=>
  refine⟨?_,h.fQ _⟩
  have:=h.tm d t (Nat.le_refl _)
  simpa[oz,Act.eval,ch]using this
 |const v=>exact⟨ad7,λi hi=>by simp[ch,ad8]at hi⟩
 |global g=>exact⟨trivial,λi hi=>by simp[ch,de]at hi⟩
 |func f=>exact⟨rfl,λi hi=>by simp[ch,de]at hi⟩
theorem dh.iy{k:Wk}{G1:Gh}(h:dh M B d up ρ G a w k G1)(x:Operand):cD G1 w ρ (ch d k.get x) (a.eval x)∧∀i∈de (ch d k.get x),M i:=by
 have e:ch d k.get x=ch d (k.r.fe k.w).get x:=by
  cases x with
  |tmp t=>exact Wk.aS _ _
  |_=>rfl
 rw[e];exact CM h.rel x
theorem Wk.gW{k k':Wk}{x:SV}{y:Lf}{G1:Gh}{v:Value}(hk:dh M B d up ρ G a w k G1)(h:k.one x=some (k',y))(hd:k'.bA S ρ)(hr:cD G1 w ρ x v):
  k.bA S ρ∧k.eP k'∧∃t,y.fE ρ=some t∧eM (er G1.ω) w t v:=by
 unfold Wk.one at h
 split at h
 ·obtain⟨e,he,hc,_⟩:=hr
  cases he
  exact⟨Wk.lJ h hd,Wk.dO h,Wk.kV h hd hc λid _=>hk.obj id⟩
 ·cases h
theorem eM.scalar{ω:Nat->Option Lb}{v u:Value}(h:eM ω w (.c v) u):u=v∧j_ v=true:=by
 cases h with
 |c h=>exact⟨rfl,h⟩
theorem eM.rows{ω:Nat->Option Lb}{xs:List (List T)}{u:Value}(h:eM ω w (.l xs) u):∃b c,u=.slice b xs.length c∧(xs≠[]->xs.length<=c):=by
 cases h with
 |nil=>exact⟨_,_,rfl,λh=>absurd rfl h⟩
 |l _ hc=>exact⟨_,_,rfl,λ_=>hc⟩
end
section
variable {M:Nat->Prop} {B:eI} {d:Nat} {up:Nat->Nat->Value} {ρ:List T} {G:Gh} {a:Act} {w:World} {S:Nat->af} {P:Program}
def bX(d:Nat)(o:Oper)(k:Wk)(v:SV):Wk:=match o.dst with|some n=>k.set (.t d n) v|none=>k
theorem rD{s:St}{k:Wk}{G1:Gh}(h:Rel M B d up s ρ G a w)(hk:dh M B d up ρ G a w k G1){o:Oper}(hn:∀n,o.dst=some n->n<a.tmps.size)
  {v:Value}(hx:(execOp a.eval o).run P w=.ok (.value v) w){x:SV}(hv:cD G1 w ρ x v)(hm:∀i∈de x,M i)(Q:Exit->Act->World->Prop):
  bJ P M B d up ρ a w s o (bX d o k x).w Q:=by
 unfold bX
 cases ho:o.dst with
 |none=>exact ad6 h hk ho hx Q
 |some n=>exact ad5 h hk ho (hn n ho) hx hv hm Q
theorem Qr{G1:Gh}{y:Lf}{t:T}{v:Value}(hy:y.fE ρ=some t)(hd:eM G1.q w t v)(ha:∀x,v≠.agg x):cD G1 w ρ (.v false [.p y]) v:=
 ⟨_,rfl,⟨t,hy,hd⟩,ha⟩
theorem DV{G1:Gh}{y:Lf}{v:Value}(hy:y.fE ρ=some (.c v))(hs:j_ v=true):cD G1 w ρ (.v false [.p y]) v:=
 Qr hy (.c hs) λx hx=>by subst hx;simp[j_]at hs
theorem ad9{op:BinOp}{t:TypeId}{x y:Operand}{u v r:Value}(h:lO op u v=some r):
  ((do eqGuard op t x y u v;binOp op t u v:Sem Value)).run P w=.ok r w∧j_ r=true:=by
 cases u<;>cases v<;>simp only[lO]at h<;>try cases h
 ·rename_i k n k' m
  have hg:(eqGuard op t x y (.int k n) (.int k' m)).run P w=.ok () w:=by
   unfold eqGuard;split<;>rfl
  rw[Sem.run_bind,hg]
  cases op<;>simp only at h<;>(repeat' (split at h))<;>(try cases h)<;>
   simp_all[binOp,Op.intArith,Op.intDiv,Op.intCmp,Op.intBits,Op.shift,j_]<;>(intro aw3;omega)
 ·rename_i s t'
  have hg:(eqGuard op t x y (.string s) (.string t')).run P w=.ok () w:=by
   unfold eqGuard;split<;>rfl
  rw[Sem.run_bind,hg]
  cases op<;>simp only at h<;>(try cases h)
  ·split at h
   ·rename_i hs
    cases h
    refine⟨?_,rfl⟩
    have:¬((s.size+t'.size:Nat):Int)>IntKind.i64.max:=by
     have:IntKind.i64.max=9223372036854775807:=by rfl
     simp only[qS]at hs
     omega
    simp only[Result.andThen_ok,binOp,Op.stringOp,if_neg this,Sem.run_pure]
   ·cases h
  ·exact⟨rfl,rfl⟩
  ·exact⟨rfl,rfl⟩
theorem ad_{op:BinOp}{t:TypeId}{x y:Operand}{u v r:Value}(ht:P.underlying t=some .bool)(h:Iw op u v=some r):
  ((do eqGuard op t x y u v;binOp op t u v:Sem Value)).run P w=.ok r w∧j_ r=true:=by
 cases u<;>cases v<;>simp only[Iw]at h<;>try cases h
 rename_i p q
 have hg:(eqGuard op t x y (.bool p) (.bool q)).run P w=.ok () w:=by
  unfold eqGuard;split<;>rfl
 have he:(Op.equal t (.bool p) (.bool q)).run P w=.ok (p==q) w:=by
  have key:∀n,(Op.equalIn (n+1) t (.bool p) (.bool q)).run P w=.ok (p==q) w:=λn=>by
   simp only[Op.equalIn,Sem.run_bind,run_underlying ht,Result.andThen_ok,Sem.run_pure]
  exact key 9999
 rw[Sem.run_bind,hg]
 cases op<;>simp only at h<;>(try cases h)
 ·simp[binOp,he,j_]
 ·simp[binOp,he,j_]
theorem ad'{op:UnOp}{u r:Value}(h:unV op u=some r):(Op.unary op u).run P w=.ok r w∧j_ r=true:=by
 cases u<;>simp only[unV]at h<;>try cases h
 ·cases op<;>simp only at h<;>(try cases h)
  exact⟨rfl,rfl⟩
 ·cases op<;>simp only at h<;>(try cases h)
  exact⟨rfl,rfl⟩
theorem Qs{k k1 k2:Wk}{G1:Gh}{c e:Ce}{x y:Lf}{u v:Value}{p:Prim}(hk:dh M B d up ρ G a w k G1)
  (h1:k.val c=some (k1,x))(h2:k1.val e=some (k2,y))(hd:(k2.em p [x,y]).1.bA S ρ)(hc:fT G1 w ρ c u)(he:fT G1 w ρ e v):
  k.bA S ρ∧dh M B d up ρ G a w (k2.em p [x,y]).1 G1∧(k2.em p [x,y]).1.ct.i=k.ct.i∧∃t t' r,eM (er G1.ω) w t u∧eM (er G1.ω) w t' v∧p.ev [t,t']=some r∧(k2.em p [x,y]).2.fE ρ=some r:=by
 obtain⟨oB,r,hr,oC⟩:=Wk.bO hd
 have fh:=hk.same (Wk.dO h1)
 have cK:=fh.same (Wk.dO h2)
 have fx:=Wk.lJ h2 oB
 obtain⟨t,ht,l8⟩:=Wk.kV h1 fx hc λid _=>hk.obj id
 obtain⟨t',jA,mh⟩:=Wk.kV h2 oB he λid _=>fh.obj id
 refine⟨Wk.lJ h1 fx,cK.same (Wk.bF _ _ _),?_,t,t',r,l8,mh,?_,oC⟩
 ·rw[(Wk.bF k2 p [x,y]).i,(Wk.dO h2).i,(Wk.dO h1).i]
 ·simpa[Lf.bM ht,Lf.bM jA]using hr
structure eu (P:Program) (cx:Cx):Prop where
 ty:∀t ti,cx.ty t=some ti->td P t ti
variable {cx:Cx} {cC eW oi:Nat} {s:St} {R:List bn} {ct:Ct} {k':Wk} {o:Oper} {Q:Exit->Act->World->Prop}
theorem Qt(h:Rel M B d up s ρ G a w)(hn:∀n,o.dst=some n->n<a.tmps.size){x:Operand}(ho:o.op=.move x∨o.op=.assign x)
  (hk:iI cx cC eW d o oi ⟨s.only R,[],ct,[]⟩=some k'):bJ P M B d up ρ a w s o k'.w Q∧k'.ct.i=ct.i:=by
 have hw:=dh.start h R ct
 have hx:(execOp a.eval o).run P w=.ok (.value (a.eval x)) w:=by
  unfold execOp;rcases ho with ho|ho<;>rw[ho]<;>rfl
 have cK:some (bX d o ⟨s.only R,[],ct,[]⟩ (ch d (Wk.get ⟨s.only R,[],ct,[]⟩) x))=some k':=by
  rw[<-hk];unfold iI bX;rcases ho with ho|ho<;>rw[ho]<;>rfl
 cases cK
 obtain⟨h1,h2⟩:=hw.iy x
 refine⟨rD h hw hn hx h1 h2 Q,?_⟩
 unfold bX;cases o.dst<;>rfl
theorem cL{k:Wk}{v:SV}:(bX d o k v).bA S ρ↔k.bA S ρ:=by
 unfold bX;cases o.dst<;>rfl
theorem mM{k:Wk}{v:SV}:(bX d o k v).ct=k.ct:=by
 unfold bX;cases o.dst<;>rfl
theorem aea(dT:eu P cx)(h:Rel M B d up s ρ G a w)(hn:∀n,o.dst=some n->n<a.tmps.size){op:BinOp}{t yt:TypeId}{x y:Operand}(ho:o.op=.binOp op t x y yt)
  {c e:Ce}(xQ:ch d (Wk.get ⟨s.only R,[],ct,[]⟩) x=.v false [c])(DW:ch d (Wk.get ⟨s.only R,[],ct,[]⟩) y=.v false [e])
  (hk:iI cx cC eW d o oi ⟨s.only R,[],ct,[]⟩=some k')(hd:k'.bA S ρ):bJ P M B d up ρ a w s o k'.w Q∧k'.ct.i=ct.i:=by
 have hw:=dh.start h R ct
 simp only[iI,ho,xQ,DW,cG]at hk
 obtain⟨ti,fJ,⟨k1,x1⟩,h1,⟨k2,y1⟩,h2,hk⟩:=hk
 have wG:=(hw.iy x).1
 have IV:=(hw.iy y).1
 rw[xQ]at wG
 rw[DW]at IV
 obtain⟨_,oD,hc,_⟩:=wG
 obtain⟨_,he1,he,_⟩:=IV
 cases oD
 cases he1
 simp only at hk
 have hT:=dT.ty _ _ fJ
 have fin:∀(p:Prim) (r:Value),(bX d o (k2.em p [x1,y1]).1 (.v false [.p (k2.em p [x1,y1]).2]))=k'->(execOp a.eval o).run P w=.ok (.value r) w->j_ r=true->
   (k2.em p [x1,y1]).2.fE ρ=some (.c r)->dh M B d up ρ G a w (k2.em p [x1,y1]).1 G->(k2.em p [x1,y1]).1.ct.i=ct.i->bJ P M B d up ρ a w s o k'.w Q∧k'.ct.i=ct.i:=by
  intro p r hp hr hs hv uJ hi
  subst hp
  refine⟨rD h uJ hn hr (DV hv hs) (λi hi=>by simp[de,dF]at hi) Q,?_⟩
  rw[mM];exact hi
 have hex:∀r,((do eqGuard op t x y (a.eval x) (a.eval y);binOp op t (a.eval x) (a.eval y):Sem Value)).run P w=.ok r w->(execOp a.eval o).run P w=.ok (.value r) w:=by
  intro r hr
  unfold execOp
  rw[ho]
  show Sem.run P (do let v <-(do eqGuard op t x y (a.eval x) (a.eval y);binOp op t (a.eval x) (a.eval y):Sem Value);pure (Next.value v)) w=_
  rw[Sem.run_bind,hr];rfl
 cases h4:Nat.beq ti.kd 4 with
 |true=>
  simp only[h4,cond_true,br]at hk
  have jB:(k2.em (.bb op) [x1,y1]).1.bA S ρ:=by
   have:(bX d o (k2.em (.bb op) [x1,y1]).1 (.v false [.p (k2.em (.bb op) [x1,y1]).2])).bA S ρ:=by rw[show bX d o _ _=k' from hk];exact hd
   exact cL.1 this
  obtain⟨_,uJ,hi,t1,t2,r,fx,oB,hp,hv⟩:=Qs hw h1 h2 jB hc he
  cases t1 with
  |l _=>simp[Prim.ev,T.val]at hp
  |c u=>
   cases t2 with
   |l _=>simp[Prim.ev,T.val]at hp
   |c v=>
    obtain⟨e1,_⟩:=fx.scalar
    obtain⟨e2,_⟩:=oB.scalar
    simp only[Prim.ev,T.val,Option.bind_some,cG,br]at hp
    obtain⟨r',hb,rfl⟩:=hp
    obtain⟨hr,hs⟩:=ad_ (P:=P) (w:=w) (t:=t) (x:=x) (y:=y) (hT.bo (dN h4)) hb
    exact fin _ r' hk (hex r' (by rw[e1,e2];exact hr)) hs hv uJ hi
 |false=>
  simp only[h4,cond_false]at hk
  cases h5:(Nat.beq ti.kd 1||Nat.beq ti.kd 2)with
  |false=>simp[h5]at hk
  |true=>
   simp only[h5,cond_true,br]at hk
   have jB:(k2.em (.bin op) [x1,y1]).1.bA S ρ:=by
    have:(bX d o (k2.em (.bin op) [x1,y1]).1 (.v false [.p (k2.em (.bin op) [x1,y1]).2])).bA S ρ:=by rw[show bX d o _ _=k' from hk];exact hd
    exact cL.1 this
   obtain⟨_,uJ,hi,t1,t2,r,fx,oB,hp,hv⟩:=Qs hw h1 h2 jB hc he
   cases t1 with
   |l _=>simp[Prim.ev,T.val]at hp
   |c u=>
    cases t2 with
    |l _=>simp[Prim.ev,T.val]at hp
    |c v=>
     obtain⟨e1,_⟩:=fx.scalar
     obtain⟨e2,_⟩:=oB.scalar
     simp only[Prim.ev,T.val,Option.bind_some,cG,br]at hp
     obtain⟨r',hb,rfl⟩:=hp
     obtain⟨hr,hs⟩:=ad9 (P:=P) (w:=w) (t:=t) (x:=x) (y:=y) hb
     exact fin _ r' hk (hex r' (by rw[e1,e2];exact hr)) hs hv uJ hi
end
section
variable {M:Nat->Prop} {B:eI} {d:Nat} {up:Nat->Nat->Value} {ρ:List T} {G:Gh} {a:Act} {w:World} {S:Nat->af} {P:Program}
variable {cx:Cx} {cC eW oi:Nat} {s:St} {R:List bn} {ct:Ct} {k':Wk} {o:Oper} {Q:Exit->Act->World->Prop}
theorem Ag(h:Rel M B d up s ρ G a w)(hn:∀n,o.dst=some n->n<a.tmps.size){k k1:Wk}{G1:Gh}(hk:dh M B d up ρ G a w k G1){x:SV}{v:Value}{y:Lf}{p:Prim}
  (h1:k.one x=some (k1,y))(hr:cD G1 w ρ x v)(hd:(bX d o (k1.em p [y]).1 (.v false [.p (k1.em p [y]).2])).bA S ρ)
  (hx:∀t r,eM (er G1.ω) w t v->p.ev [t]=some r->∃u,r=.c u∧j_ u=true∧(execOp a.eval o).run P w=.ok (.value u) w):
  bJ P M B d up ρ a w s o (bX d o (k1.em p [y]).1 (.v false [.p (k1.em p [y]).2])).w Q∧(bX d o (k1.em p [y]).1 (.v false [.p (k1.em p [y]).2])).ct.i=k.ct.i:=by
 have jB:=cL.1 hd
 obtain⟨fx,r,oE,hv⟩:=Wk.bO jB
 obtain⟨_,hs,t,ht,l8⟩:=Wk.gW hk h1 fx hr
 obtain⟨u,rfl,hsu,eB⟩:=hx t r l8 (by simpa[Lf.bM ht]using oE)
 refine⟨rD h ((hk.same hs).same (Wk.bF _ _ _)) hn eB (DV hv hsu) (λi hi=>by simp[de,dF]at hi) Q,?_⟩
 rw[mM,(Wk.bF k1 p [y]).i,hs.i]
theorem Qu(h:Rel M B d up s ρ G a w)(hn:∀n,o.dst=some n->n<a.tmps.size){k k1 k2:Wk}{G1:Gh}(hk:dh M B d up ρ G a w k G1){x x':SV}{v v':Value}{y y':Lf}{p:Prim}
  (h1:k.one x=some (k1,y))(h2:k1.one x'=some (k2,y'))(hr:cD G1 w ρ x v)(iN:cD G1 w ρ x' v')(hd:(bX d o (k2.em p [y,y']).1 (.v false [.p (k2.em p [y,y']).2])).bA S ρ)
  (hx:∀t t' r,eM (er G1.ω) w t v->eM (er G1.ω) w t' v'->p.ev [t,t']=some r->∃u,r=.c u∧j_ u=true∧(execOp a.eval o).run P w=.ok (.value u) w):
  bJ P M B d up ρ a w s o (bX d o (k2.em p [y,y']).1 (.v false [.p (k2.em p [y,y']).2])).w Q∧(bX d o (k2.em p [y,y']).1 (.v false [.p (k2.em p [y,y']).2])).ct.i=k.ct.i:=by
 have jB:=cL.1 hd
 obtain⟨oB,r,oE,hv⟩:=Wk.bO jB
 have mN:k.eP k1:=by
  unfold Wk.one at h1;split at h1
  ·exact Wk.dO h1
  ·cases h1
 obtain⟨fx,nM,t',jA,mh⟩:=Wk.gW (hk.same mN) h2 oB iN
 obtain⟨_,_,t,ht,l8⟩:=Wk.gW hk h1 fx hr
 obtain⟨u,rfl,hsu,eB⟩:=hx t t' r l8 mh (by simpa[Lf.bM ht,Lf.bM jA]using oE)
 refine⟨rD h (((hk.same mN).same nM).same (Wk.bF _ _ _)) hn eB (DV hv hsu) (λi hi=>by simp[de,dF]at hi) Q,?_⟩
 rw[mM,(Wk.bF k2 p [y,y']).i,nM.i,mN.i]
theorem aed(h:Rel M B d up s ρ G a w)(hn:∀n,o.dst=some n->n<a.tmps.size){op:UnOp}{t:TypeId}{x:Operand}(ho:o.op=.unOp op t x)
  (hk:iI cx cC eW d o oi ⟨s.only R,[],ct,[]⟩=some k')(hd:k'.bA S ρ):bJ P M B d up ρ a w s o k'.w Q∧k'.ct.i=ct.i:=by
 have hw:=dh.start h R ct
 simp only[iI,ho,cG,br]at hk
 obtain⟨⟨k1,y⟩,h1,hk⟩:=hk
 subst hk
 refine Ag h hn hw h1 (hw.iy x).1 hd λt r l8 hr=>?_
 cases t with
 |l _=>simp[Prim.ev,T.val]at hr
 |c u=>
  obtain⟨e,_⟩:=l8.scalar
  simp only[Prim.ev,T.val,Option.bind_some,cG,br]at hr
  obtain⟨r',hb,rfl⟩:=hr
  obtain⟨eB,hs⟩:=ad' (P:=P) (w:=w) hb
  refine⟨r',rfl,hs,?_⟩
  unfold execOp;rw[ho]
  show Sem.run P (do let v <-Op.unary op (a.eval x);pure (Next.value v)) w=_
  rw[e,Sem.run_bind,eB];rfl
theorem aee(ns:List Int):∀s:ByteArray,ns.foldl (λr n=>r.push (UInt8.ofNat n.toNat)) s=⟨s.data++(ns.map λn=>UInt8.ofNat n.toNat).toArray⟩:=by
 induction ns with
 |nil=>intro s;simp
 |cons n ns ih=>intro s;rw[List.foldl_cons,ih];simp[ByteArray.push]
theorem aef(ns:List Int):ns.foldl (λr n=>r.push (UInt8.ofNat n.toNat)) ByteArray.empty=zN ns:=by
 rw[aee];unfold zN;congr 1;exact Array.empty_append
theorem Qv:∀{xs:List (List T)} {ns:List Int},xy xs=some ns->ns.length=xs.length∧∀(j:Nat) (n:Int),ns[j]?=some n->xs[j]?=some [T.c (.int .u8 n)]
 | [],ns,h=>by
  simp only[xy,br]at h
  subst h
  exact⟨rfl,λj n h=>by simp at h⟩
 |r::rs,ns,h=>by
  simp only[xy,cG,br]at h
  obtain⟨n,h1,ns',h2,rfl⟩:=h
  obtain⟨g1,g2⟩:=Qv h2
  refine⟨by simp[g1],λj m hj=>?_⟩
  cases j with
  |zero=>
   simp only[List.getElem?_cons_zero,br]at hj⊢
   subst hj
   unfold Qb at h1
   split at h1
   ·cases h1;rfl
   ·cases h1
  |succ j=>simpa using g2 j m (by simpa using hj)
theorem aeg{ω:Nat->Option Lb}{xs:List (List T)}{v:Value}{ns:List Int}(h:eM ω w (.l xs) v)(hb:xy xs=some ns):(Conv.bytesToString v).run P w=.ok (.string (zN ns)) w:=by
 obtain⟨hlen,bE⟩:=Qv hb
 rw[<-aef]
 cases h with
 |nil=>
  have:ns=[]:=List.eq_nil_of_length_eq_zero hlen
  subst this
  rename_i a0 cap
  cases a0 with
  |none=>simp[Conv.bytesToString,Sem.run_pure]
  |some b=>exact run_bytesToString w b 0 cap [] (run_loadCells_list w b [] λj v hj=>by simp at hj)
 |l hw hc hn be h1 h2=>
  rename_i b off wd cap cv
  refine run_bytesToString w _ _ _ ns ?_
  rw[<-hlen,<-List.length_map (f:=Value.int .u8)]
  refine run_loadCells_list w _ _ λj v hj=>?_
  rw[List.getElem?_map,Option.map_eq_some_iff]at hj
  obtain⟨n,hj,rfl⟩:=hj
  have hx:=bE j n hj
  have qp:wd=1:=by
   have:=hw _ (List.mem_of_getElem? hx)
   simpa using this.symm
  subst qp
  have h3:dK xs j 0=some (.c (.int .u8 n)):=by simp[dK,hx]
  have h5:=h1 j 0 _ h3
  rw[(h2 j 0 _ h3).scalar.1]at h5
  rw[Addr.add_lit,show off+j=off+(j*1+0) by omega]
  exact h5
theorem aeh(dT:eu P cx)(h:Rel M B d up s ρ G a w)(hn:∀n,o.dst=some n->n<a.tmps.size){t1 t2:TypeId}{x:Operand}(ho:o.op=.convert t1 t2 x)
  (hk:iI cx cC eW d o oi ⟨s.only R,[],ct,[]⟩=some k')(hd:k'.bA S ρ):bJ P M B d up ρ a w s o k'.w Q∧k'.ct.i=ct.i:=by
 have hw:=dh.start h R ct
 simp only[iI,ho,cG]at hk
 obtain⟨si,Qw,ti,fJ,⟨k1,y⟩,h1,hk⟩:=hk
 split at hk
 ·rename_i kk z hz
  cases hb:(Nat.beq ti.kd 1&&Nat.beq si.kd 1)with
  |false=>rw[hb]at hk;cases hk
  |true=>
   rw[hb]at hk
   simp only[cond_true,br]at hk
   subst hk
   rw[bk]at hb
   have xR:=(dT.ty _ _ fJ).ik (dN hb.1) kk z hz
   obtain⟨k0,OU⟩:=(dT.ty _ _ Qw).it (dN hb.2)
   refine Ag h hn hw h1 (hw.iy x).1 hd λt r l8 hr=>?_
   cases t with
   |l _=>simp[Prim.ev]at hr
   |c u=>
    obtain⟨e,_⟩:=l8.scalar
    cases u<;>simp only[Prim.ev,br]at hr<;>try cases hr
    rename_i k3 n l9
    refine⟨_,rfl,rfl,?_⟩
    unfold execOp;rw[ho]
    show Sem.run P (do let v <-convert t1 t2 (a.eval x);pure (Next.value v)) w=_
    rw[e,Sem.run_bind]
    have:(convert t1 t2 (.int k3 n)).run P w=.ok (.int kk (kk.wrap n)) w:=by
     unfold convert
     simp only[Sem.run_bind,run_underlying OU,run_underlying xR,Result.andThen_ok]
     rfl
    rw[this];rfl
 ·rename_i z hz
  cases hb:(Nat.beq ti.kd 2&&Nat.beq si.kd 3)with
  |false=>rw[hb]at hk;cases hk
  |true=>
   rw[hb]at hk
   simp only[cond_true,cG]at hk
   obtain⟨te,pF,hk⟩:=hk
   split at hk
   ·rename_i z2 sB
    cases oF:Nat.beq te.kd 1 with
    |false=>rw[oF]at hk;cases hk
    |true=>
     rw[oF]at hk
     simp only[cond_true,br]at hk
     subst hk
     rw[bk]at hb
     have OU:=(dT.ty _ _ Qw).sl (dN hb.2)
     have xR:=(dT.ty _ _ fJ).st (dN hb.1)
     have hu3:=(dT.ty _ _ pF).ik (dN oF) .u8 z2 sB
     refine Ag h hn hw h1 (hw.iy x).1 hd λt r l8 hr=>?_
     cases t with
     |c u=>simp[Prim.ev]at hr
     |l xs=>
      simp only[Prim.ev,cG,br]at hr
      obtain⟨ns,hns,rfl⟩:=hr
      refine⟨_,rfl,rfl,?_⟩
      unfold execOp;rw[ho]
      show Sem.run P (do let v <-convert t1 t2 (a.eval x);pure (Next.value v)) w=_
      rw[Sem.run_bind]
      obtain⟨b,c,e,_⟩:=l8.rows
      have:(convert t1 t2 (a.eval x)).run P w=.ok (.string (zN ns)) w:=by
       have h0:=aeg (P:=P) l8 hns
       rw[e]at h0⊢
       rw[run_convert_bytes_string w t1 t2 si.el b xs.length c OU hu3 xR]
       exact h0
      rw[this];rfl
   ·cases hk
 ·cases hk
theorem IW{x:Sem Value}{v:Value}(h:x.run P w=.ok v w):(do let v <-x;pure (Next.value v):Sem Next).run P w=.ok (.value v) w:=by
 rw[Sem.run_bind,h];rfl
theorem Qx{c:Call}{b:Builtin}(ho:o.op=.call c)(hc:c.callee=.builtin b){r:Result Next}
  (h:(builtin b c.argTypes o.type (c.args.map λ | .const _=>true|_=>false) (c.args.map a.eval)).run P w=r):(execOp a.eval o).run P w=r:=by
 unfold execOp
 rw[ho]
 show Sem.run P (do let d <-resolve a.eval c o.type;invoke d.target d.args) w=r
 simp only[resolve,hc]
 exact h
theorem aej(h:Rel M B d up s ρ G a w)(hn:∀n,o.dst=some n->n<a.tmps.size)(dT:eu P cx){c:Call}{x:Operand}(ho:o.op=.call c)(hc:c.callee=.builtin .len)(eZ:c.args.toList=[x])
  {ti:TI}(ht:(c.argTypes[0]?).bind cx.ty=some ti)(o6:ti.kd=3){k k1:Wk}{G1:Gh}{y:Lf}(hw:dh M B d up ρ G a w k G1)
  (h1:k.one (ch d k.get x)=some (k1,y))(hd:(bX d o (k1.em .len [y]).1 (.v false [.p (k1.em .len [y]).2])).bA S ρ):
  bJ P M B d up ρ a w s o (bX d o (k1.em .len [y]).1 (.v false [.p (k1.em .len [y]).2])).w Q∧(bX d o (k1.em .len [y]).1 (.v false [.p (k1.em .len [y]).2])).ct.i=k.ct.i:=by
 refine Ag h hn hw h1 (hw.iy x).1 hd λt r l8 hr=>?_
 have hA:c.args=#[x]:=Array.ext' eZ
 cases IX:c.argTypes[0]? with
 |none=>simp[IX]at ht
 |some tt=>
  have hT:=dT.ty tt ti (by simpa[IX]using ht)
  have hu:=hT.sl o6
  cases t with
  |l xs=>
   obtain⟨b,cap,e,_⟩:=l8.rows
   simp only[Prim.ev,br]at hr
   subst hr
   refine⟨_,rfl,rfl,Qx ho hc ?_⟩
   rw[hA]
   refine IW ?_
   simp[e,Builtin.len_,IX,run_underlying hu,goInt]
  |c v=>simp[Prim.ev]at hr
theorem aek(h:Rel M B d up s ρ G a w)(hn:∀n,o.dst=some n->n<a.tmps.size)(dT:eu P cx){c:Call}{x:Operand}(ho:o.op=.call c)(hc:c.callee=.builtin .len)(eZ:c.args.toList=[x])
  {ti:TI}(ht:(c.argTypes[0]?).bind cx.ty=some ti)(o6:ti.kd=2){k k1:Wk}{G1:Gh}{y:Lf}(hw:dh M B d up ρ G a w k G1)
  (h1:k.one (ch d k.get x)=some (k1,y))(hd:(bX d o (k1.em .lens [y]).1 (.v false [.p (k1.em .lens [y]).2])).bA S ρ):
  bJ P M B d up ρ a w s o (bX d o (k1.em .lens [y]).1 (.v false [.p (k1.em .lens [y]).2])).w Q∧(bX d o (k1.em .lens [y]).1 (.v false [.p (k1.em .lens [y]).2])).ct.i=k.ct.i:=by
 refine Ag h hn hw h1 (hw.iy x).1 hd λt r l8 hr=>?_
 have hA:c.args=#[x]:=Array.ext' eZ
 cases IX:c.argTypes[0]? with
 |none=>simp[IX]at ht
 |some tt=>
  have hT:=dT.ty tt ti (by simpa[IX]using ht)
  have hu:=hT.st o6
  cases t with
  |l xs=>simp[Prim.ev]at hr
  |c v=>
   obtain⟨e,hs⟩:=l8.scalar
   cases v with
   |string str=>
    simp only[Prim.ev,br]at hr
    subst hr
    refine⟨_,rfl,rfl,Qx ho hc ?_⟩
    rw[hA]
    refine IW ?_
    simp[e,Builtin.len_,IX,run_underlying hu,goInt]
   |_=>simp[Prim.ev]at hr
theorem Qy(h:Rel M B d up s ρ G a w)(hn:∀n,o.dst=some n->n<a.tmps.size){c:Call}{x x':Operand}(ho:o.op=.call c)(eZ:c.args.toList=[x,x'])
  {p:Prim}(hc:c.callee=.builtin .max∧p=.mx∨c.callee=.builtin .min∧p=.mn){k k1 k2:Wk}{G1:Gh}{y y':Lf}(hw:dh M B d up ρ G a w k G1)
  (h1:k.one (ch d k.get x)=some (k1,y))(h2:k1.one (ch d k.get x')=some (k2,y'))(hd:(bX d o (k2.em p [y,y']).1 (.v false [.p (k2.em p [y,y']).2])).bA S ρ):
  bJ P M B d up ρ a w s o (bX d o (k2.em p [y,y']).1 (.v false [.p (k2.em p [y,y']).2])).w Q∧(bX d o (k2.em p [y,y']).1 (.v false [.p (k2.em p [y,y']).2])).ct.i=k.ct.i:=by
 refine Qu h hn hw h1 h2 (hw.iy x).1 (hw.iy x').1 hd λt t' r l8 mh hr=>?_
 have hA:c.args=#[x,x']:=Array.ext' eZ
 cases t with
 |l _=>rcases hc with⟨_,rfl⟩|⟨_,rfl⟩<;>simp[Prim.ev]at hr
 |c u=>
  cases t' with
  |l _=>rcases hc with⟨_,rfl⟩|⟨_,rfl⟩<;>cases u<;>simp[Prim.ev]at hr
  |c u'=>
   obtain⟨e,_⟩:=l8.scalar
   obtain⟨e',_⟩:=mh.scalar
   cases u<;>cases u'<;>rcases hc with⟨hc,rfl⟩|⟨hc,rfl⟩<;>simp only[Prim.ev,br]at hr<;>try cases hr
   ·exact⟨_,rfl,rfl,Qx ho hc (by rw[hA];simp[builtin,Builtin.max_,Builtin.max2,e,e'])⟩
   ·exact⟨_,rfl,rfl,Qx ho hc (by rw[hA];simp[builtin,Builtin.min_,Builtin.min2,e,e'])⟩
theorem CN{x:Sem Value}{v:Value}(he:execOp a.eval o=(do let v <-x;pure (Next.value v)))(h:x.run P w=.ok v w):(execOp a.eval o).run P w=.ok (.value v) w:=by
 rw[he];exact IW h
theorem ael(h:Rel M B d up s ρ G a w)(hn:∀n,o.dst=some n->n<a.tmps.size){x x':Operand}{t:TypeId}(ho:o.op=.index t x x')(dT:eu P cx){ti:TI}(ht:cx.ty t=some ti)(o6:ti.kd=2)
  {k k1 k2:Wk}{G1:Gh}{y y':Lf}(hw:dh M B d up ρ G a w k G1)
  (h1:k.one (ch d k.get x)=some (k1,y))(h2:k1.one (ch d k.get x')=some (k2,y'))(hd:(bX d o (k2.em .idx [y,y']).1 (.v false [.p (k2.em .idx [y,y']).2])).bA S ρ):
  bJ P M B d up ρ a w s o (bX d o (k2.em .idx [y,y']).1 (.v false [.p (k2.em .idx [y,y']).2])).w Q∧(bX d o (k2.em .idx [y,y']).1 (.v false [.p (k2.em .idx [y,y']).2])).ct.i=k.ct.i:=by
 refine Qu h hn hw h1 h2 (hw.iy x).1 (hw.iy x').1 hd λt1 t2 r l8 mh hr=>?_
 have hu:=(dT.ty _ _ ht).st o6
 cases t1 with
 |l _=>cases t2<;>simp[Prim.ev]at hr
 |c u=>
  cases t2 with
  |l _=>cases u<;>simp[Prim.ev]at hr
  |c u'=>
   obtain⟨e,_⟩:=l8.scalar
   obtain⟨e',_⟩:=mh.scalar
   cases u with
   |string str=>
    cases u' with
    |int kk n=>
     simp only[Prim.ev]at hr
     split at hr
     ·rename_i h0
      split at hr
      ·rename_i be
       simp only[br]at hr
       subst hr
       refine⟨_,rfl,rfl,CN (x:=Instr.index t (a.eval x) (a.eval x')) (by unfold execOp;rw[ho]) ?_⟩
       have hg:str[n.toNat]?=some (str.get n.toNat be):=by
        simp[getElem?_pos,be];rfl
       simp[Instr.index,e,e',asIntOf,run_underlying hu,h0,hg]
      ·cases hr
     ·cases hr
    |_=>simp[Prim.ev]at hr
   |_=>cases u'<;>simp[Prim.ev]at hr
theorem aem(h:Rel M B d up s ρ G a w)(hn:∀n,o.dst=some n->n<a.tmps.size){x:Operand}(ho:o.op=.nilCheck x)
  (hk:iI cx cC eW d o oi ⟨s.only R,[],ct,[]⟩=some k'):bJ P M B d up ρ a w s o k'.w Q∧k'.ct.i=ct.i:=by
 have hw:=dh.start h R ct
 obtain⟨hr,hm⟩:=hw.iy x
 have key:∀(v:SV) (ad:Addr),ch d (Wk.get ⟨s.only R,[],ct,[]⟩) x=v->a.eval x=.pointer (some ad)->some (bX d o ⟨s.only R,[],ct,[]⟩ v)=some k'->bJ P M B d up ρ a w s o k'.w Q∧k'.ct.i=ct.i:=by
  intro v ad hv he hk
  cases hk
  refine⟨rD h hw hn (v:=.pointer (some ad)) ?_ (by rw[<-he,<-hv];exact hr) (by rw[<-hv];exact hm) Q,by rw[mM]⟩
  unfold execOp
  rw[ho]
  show Sem.run P (match a.eval x with| .pointer none| .nilIface| .nilFunc=>runtimePanic .nilDeref| .func (.method name) first captured=>_|x=>pure (Next.value x)) w=_
  rw[he];rfl
 simp only[iI,ho]at hk
 split at hk
 ·rename_i bx off hv
  rw[hv]at hr
  exact key _ _ hv hr hk
 ·rename_i id q ix wd off hv
  rw[hv]at hr
  obtain⟨p,b,n,cap,i,_,_,_,_,he⟩:=hr
  exact key _ _ hv he hk
 ·rename_i s' ix wd off hv
  rw[hv]at hr
  obtain⟨xs,i,r,b,base,_,_,_,he,_⟩:=hr
  exact key _ _ hv he hk
 ·cases hk
theorem aen(h:Rel M B d up s ρ G a w)(hn:∀n,o.dst=some n->n<a.tmps.size){x:Operand}{i:Nat}(ho:o.op=.extract x i)
  (hk:iI cx cC eW d o oi ⟨s.only R,[],ct,[]⟩=some k'):bJ P M B d up ρ a w s o k'.w Q∧k'.ct.i=ct.i:=by
 have hw:=dh.start h R ct
 obtain⟨hr,hm⟩:=hw.iy x
 simp only[iI,ho]at hk
 split at hk
 ·rename_i vs hv
  rw[hv]at hr hm
  simp only[cG,br]at hk
  obtain⟨u,hu,hk⟩:=hk
  have cK:bX d o ⟨s.only R,[],ct,[]⟩ (.v u.1 u.2)=k':=hk
  subst cK
  obtain⟨us,he,o7⟩:=hr
  have main:∀(vs:List (Bool×List Ce)) (us:List Value) (i:Nat) (u:Bool×List Ce),gn G w ρ vs us->vs[i]?=some u->
    ∃v,us[i]?=some v∧eY G w ρ u.1 u.2 v∧∀j∈dF u.2,j∈ry vs:=by
   intro vs
   induction vs with
   |nil=>intro us i u _ hi;simp at hi
   |cons y vs ih=>
    intro us i u hr hi
    cases us with
    |nil=>exact hr.elim
    |cons z us=>
     cases i with
     |zero=>simp at hi;subst hi;exact⟨z,rfl,hr.1,λj hj=>by simp[ry,hj]⟩
     |succ i=>
      obtain⟨v,h1,h2,h3⟩:=ih us i u hr.2 (by simpa using hi)
      exact⟨v,by simpa using h1,h2,λj hj=>by simp[ry,h3 j hj]⟩
  obtain⟨v,h1,h2,h3⟩:=main vs us i u o7 hu
  refine⟨rD h hw hn (v:=v) (x:=.v u.1 u.2) (CN (x:=Instr.extract (a.eval x) i) (by unfold execOp;rw[ho]) ?_) h2 (λj hj=>hm j (h3 j hj)) Q,by rw[mM]⟩
  rw[he]
  simp[Instr.extract,h1]
 ·cases hk
theorem aeo(dT:eu P cx)(h:Rel M B d up s ρ G a w)(hn:∀n,o.dst=some n->n<a.tmps.size){x:Operand}{t f:Nat}(ho:o.op=.fieldAddr t x f)
  (hk:iI cx cC eW d o oi ⟨s.only R,[],ct,[]⟩=some k'):bJ P M B d up ρ a w s o k'.w Q∧k'.ct.i=ct.i:=by
 have hw:=dh.start h R ct
 obtain⟨hr,hm⟩:=hw.iy x
 simp only[iI,ho,cG,br]at hk
 obtain⟨v,hv,hk⟩:=hk
 have cK:bX d o ⟨s.only R,[],ct,[]⟩ v=k':=hk
 subst cK
 have run:∀(ti:TI) (of:Nat×Nat) (b oo:Nat),cx.ty t=some ti->ti.fs[f]?=some of->a.eval x=.pointer (some ⟨b,oo,none⟩)->
   (execOp a.eval o).run P w=.ok (.value (.pointer (some ⟨b,oo+of.1,none⟩))) w:=by
  intro ti of b oo fJ hf he
  obtain⟨fs,zl,i,h1,h2,h3,h4,h5,_⟩:=(dT.ty _ _ fJ).fs f of hf
  refine CN (x:=Instr.fieldAt t (a.eval x) f) (by unfold execOp;rw[ho]) ?_
  simp[Instr.fieldAt,run_underlying h1,h2,he,Instr.sureAddr,fieldPlace,sizeOf,typeInfo,h4,h5,h3,Addr.add_lit]
 unfold fieldAt at hv
 split at hv
 ·rename_i bx off dV
  rw[dV]at hr hm
  simp only[cG,br]at hv
  obtain⟨ti,fJ,of,hf,rfl⟩:=hv
  exact⟨rD h hw hn (x:=.pt bx (off+of.1)) (run ti of _ _ fJ hf hr) rfl hm Q,by rw[mM]⟩
 ·rename_i id q ix wd off dV
  rw[dV]at hr hm
  simp only[cG,br]at hv
  obtain⟨ti,fJ,of,hf,rfl⟩:=hv
  obtain⟨p,b,n,cap,i,h1,h2,h3,h4,he⟩:=hr
  exact⟨rD h hw hn (x:=.ep id q ix wd (off+of.1)) (run ti of _ _ fJ hf he) ⟨p,b,n,cap,i,h1,h2,h3,h4,by rw[Nat.add_assoc]⟩ hm Q,by rw[mM]⟩
 ·rename_i s' ix wd off dV
  rw[dV]at hr hm
  simp only[cG,br]at hv
  obtain⟨ti,fJ,of,hf,rfl⟩:=hv
  obtain⟨xs,i,r,b,base,h1,h2,h3,he,h5⟩:=hr
  exact⟨rD h hw hn (x:=.fp s' ix wd (off+of.1)) (run ti of _ _ fJ hf he) ⟨xs,i,r,b,base,h1,h2,h3,by rw[Nat.add_assoc],h5⟩ hm Q,by rw[mM]⟩
 ·cases hv
theorem eM.one{ω:Nat->Option Lb}{t:T}{v:Value}(h:eM ω w t v):v.oneCell'=true:=by
 cases h with
 |c h=>cases v<;>simp_all[j_,Value.oneCell']
 |nil=>rfl
 |l=>rfl
theorem fT.one{e:Ce}{v:Value}(h:fT G w ρ e v):v.oneCell'=true:=by
 cases e with
 |p x=>obtain⟨t,_,h⟩:=h;exact h.one
 |o id q=>obtain⟨p,_,rfl⟩:=h;obtain⟨x,n,c,h⟩:=G.hs id p;rw[h];rfl
 |n=>cases h;rfl
 |d=>exact h
theorem aep{v:Value}(h:v.oneCell'=true):∀x,v≠.agg x:=λx e=>by subst e;cases h
theorem aX.length:∀{cs:List Ce} {vs:List Value},aX G w ρ cs vs->cs.length=vs.length
 | [],[],_=>rfl
 | [],_::_,h=>h.elim
 |_::_,[],h=>h.elim
 |_::cs,_::vs,h=>by simp[aX.length h.2]
theorem aX.drop:∀{cs:List Ce} {vs:List Value} (n:Nat),aX G w ρ cs vs->aX G w ρ (cs.drop n) (vs.drop n)
 |_,_,0,h=>h
 | [],[],n+1,_=>trivial
 | [],_::_,_,h=>h.elim
 |_::_,[],_,h=>h.elim
 |_::cs,_::vs,n+1,h=>aX.drop n h.2
theorem aX.take:∀{cs:List Ce} {vs:List Value} (n:Nat),aX G w ρ cs vs->aX G w ρ (cs.take n) (vs.take n)
 |_,_,0,h=>trivial
 | [],[],n+1,_=>trivial
 | [],_::_,_,h=>h.elim
 |_::_,[],_,h=>h.elim
 |_::cs,_::vs,n+1,h=>⟨h.1,aX.take n h.2⟩
theorem aX.one:∀{cs:List Ce} {vs:List Value},aX G w ρ cs vs->∀v∈vs,v.oneCell'=true
 | [],[],_,v,hv=>by cases hv
 | [],_::_,h,_,_=>h.elim
 |_::_,[],h,_,_=>h.elim
 |_::cs,_::vs,h,v,hv=>by
  cases hv with
  |head=>exact h.1.one
  |tail _ hv=>exact aX.one h.2 v hv
theorem IY(cs:List Ce)(n:Nat):∀i∈dF (cs.drop n),i∈dF cs:=by
 induction cs generalizing n with
 |nil=>intro i hi;simp at hi;exact hi
 |cons c cs ih=>
  intro i hi
  cases n with
  |zero=>exact hi
  |succ n=>rw[xL];exact List.mem_append_right _ (ih n i (by simpa using hi))
theorem IZ(cs:List Ce)(n:Nat):∀i∈dF (cs.take n),i∈dF cs:=by
 induction cs generalizing n with
 |nil=>intro i hi;simp at hi;exact hi
 |cons c cs ih=>
  intro i hi
  cases n with
  |zero=>simp[dF]at hi
  |succ n=>
   rw[List.take_succ_cons,xL]at hi
   rw[xL]
   rcases List.mem_append.1 hi with hi|hi
   ·exact List.mem_append_left _ hi
   ·exact List.mem_append_right _ (ih n i hi)
theorem Qz{t:Nat}{ti:TI}(hT:td P t ti){b off:Nat}{vs:List Value}(hl:vs.length=ti.sz)
  (hc:∀j v,vs[j]?=some v->w.cell? ⟨b,off+j,none⟩=some v):
  (Instr.loadAt t (.pointer (some ⟨b,off,none⟩))).run P w=.ok (if ti.ag then .agg vs.toArray else vs.getD 0 undef) w:=by
 obtain⟨i,z,hi,hs,_,_,_⟩:=hT.info
 obtain⟨u,hu,nB,xS⟩:=hT.ag
 have rE:(loadCells ⟨b,off,none⟩ vs.length).run P w=.ok vs.toArray w:=
  run_loadCells_list w _ vs λj v hj=>by rw[Addr.add_lit];exact hc j v hj
 cases hb:ti.ag with
 |true=>
  obtain⟨fs,rfl⟩:=nB.1 hb
  simp[Instr.loadAt,Instr.sureAddr,loadVar,isAgg,run_underlying hu,sizeOf,typeInfo,hi,hs,<-hl,rE]
 |false=>
  have h1:=hT.one hb
  obtain⟨v,rfl⟩:∃v,vs=[v]:=by
   cases vs with
   |nil=>simp at hl;omega
   |cons v vs=>cases vs with
    |nil=>exact⟨v,rfl⟩
    |cons _ _=>simp at hl;omega
  have Hy:=hc 0 v rfl
  have DX:(isAgg t).run P w=.ok false w:=by
   simp only[isAgg,Sem.run_bind,run_underlying hu,Result.andThen_ok]
   cases u with
   |struct fs=>have:=nB.2 ⟨fs,rfl⟩;rw[hb]at this;cases this
   |array n e=>exact absurd rfl (xS n e)
   |_=>rfl
  simp only[Nat.add_zero]at Hy
  simp[Instr.loadAt,Instr.sureAddr,loadVar,DX,Hy]
theorem Ah{ti:TI}{t:Nat}(hT:td P t ti){G1:Gh}{cs:List Ce}{vs:List Value}(h:aX G1 w ρ cs vs)(hl:vs.length=ti.sz):
  cD G1 w ρ (.v ti.ag cs) (if ti.ag then .agg vs.toArray else vs.getD 0 undef):=by
 cases hb:ti.ag with
 |true=>exact⟨vs,rfl,h⟩
 |false=>
  have h1:=hT.one hb
  cases vs with
  |nil=>simp at hl;omega
  |cons v vs=>cases vs with
   |cons _ _=>simp at hl;omega
   |nil=>cases cs with
    |nil=>exact h.elim
    |cons c cs=>cases cs with
     |cons _ _=>exact h.2.elim
     |nil=>exact⟨c,rfl,h.1,aep h.1.one⟩
theorem QA{x ix:Lf}{xs:List (List T)}{i:Nat}(hx:x.fE ρ=some (.l xs))(hi:lI ρ ix=some i):uE (x.ev ρ) (ix.ev ρ)=xs[i]?:=by
 obtain⟨k,hk⟩:=xM hi
 rw[Lf.bM hx,hk,Ac]
theorem Wk.pG:∀(n:Nat) (k:Wk) (sc:Bool) (x ix:Lf) (wd off:Nat),k.eP (k.row sc x ix wd off n).1
 |0,k,_,_,_,_,_=>.refl k
 |n+1,k,sc,x,ix,wd,off=>by
  simp only[Wk.row]
  exact(Wk.bF k _ _).trans (Wk.pG n _ sc x ix wd (off+1))
theorem Wk.rF:∀(n:Nat) (k:Wk) (sc:Bool) (x ix:Lf) (wd off:Nat),(k.row sc x ix wd off n).1.bA S ρ->k.bA S ρ
 |0,_,_,_,_,_,_,h=>h
 |n+1,k,sc,x,ix,wd,off,h=>by
  simp only[Wk.row]at h
  exact(Wk.bO (Wk.rF n _ sc x ix wd (off+1) h)).1
theorem I0{x ix:Lf}{xs:List (List T)}{i wd off:Nat}{sc:Bool}{t:T}(hx:x.fE ρ=some (.l xs))(hi:lI ρ ix=some i)
  (h:Prim.ev (bif sc then .a_ wd off else .cell wd off) [x.ev ρ,ix.ev ρ]=some t):
  ∃r,xs[i]?=some r∧r.length=wd∧r[off]?=some t∧(sc=true->eA t=true):=by
 cases sc with
 |false=>
  simp only[cond_false,Prim.ev,QA hx hi]at h
  cases hr:xs[i]? with
  |none=>simp[hr]at h
  |some r=>
   simp only[hr,Option.bind_some]at h
   split at h
   ·rename_i hl;exact⟨r,rfl,hl,h,λhf=>by cases hf⟩
   ·cases h
 |true=>
  simp only[cond_true,Prim.ev,QA hx hi]at h
  cases hr:xs[i]? with
  |none=>simp[hr]at h
  |some r=>
   simp only[hr,Option.bind_some]at h
   split at h
   ·rename_i hl
    cases ho:r[off]? with
    |none=>simp[ho]at h
    |some t'=>
     simp only[ho,Option.bind_some]at h
     split at h
     ·rename_i hs;cases h;exact⟨r,rfl,hl,ho,λ_=>hs⟩
     ·cases h
   ·cases h
theorem Wk.wH{G1:Gh}{x ix:Lf}{xs:List (List T)}{i wd:Nat}{sc:Bool}(hx:x.fE ρ=some (.l xs))(hi:lI ρ ix=some i){b base:Nat}
  (gb:∀r,xs[i]?=some r->r.length=wd->∀j t,r[j]?=some t->(sc=true->eA t=true)->∃u,w.cell? ⟨b,base+j,none⟩=some u∧eM G1.q w t u):
  ∀(n:Nat) (k:Wk) (off:Nat),(k.row sc x ix wd off n).1.bA S ρ->
   ∃vs:List Value,vs.length=n∧(∀j v,vs[j]?=some v->w.cell? ⟨b,base+off+j,none⟩=some v)∧aX G1 w ρ (k.row sc x ix wd off n).2 vs∧dF (k.row sc x ix wd off n).2=[]
 |0,k,off,_=>⟨[],rfl,λj v hj=>by simp at hj,trivial,rfl⟩
 |n+1,k,off,hd=>by
  simp only[Wk.row]at hd⊢
  obtain⟨_,t,ht,hy⟩:=Wk.bO (Wk.rF n _ sc x ix wd (off+1) hd)
  obtain⟨r,h1,h2,h3,h4⟩:=I0 hx hi ht
  obtain⟨u,h5,h6⟩:=gb r h1 h2 off t h3 h4
  obtain⟨vs,g1,g2,g3,g4⟩:=Wk.wH hx hi gb n _ (off+1) hd
  refine⟨u::vs,by simp[g1],λj v hj=>?_,⟨⟨t,hy,h6⟩,g3⟩,by simp[dF,g4]⟩
  cases j with
  |zero=>simp at hj;subst hj;simpa using h5
  |succ j=>
   have:=g2 j v (by simpa using hj)
   rwa[show base+(off+1)+j=base+off+(j+1) by omega]at this
theorem QB{ix:Lf}{wd off i:Nat}(hi:lI ρ ix=some i):∀{q:mJ} {p:List (Nat×Nat)},gD ρ q=some p->gD ρ (q++[(ix,wd,off)])=some (p++[(i,off)])
 | [],p,h=>by simp only[gD]at h;cases h;simp[gD,hi]
 |(z1,z2,z3)::q,p,h=>by
  simp only[gD]at h
  cases mN:lI ρ z1 with
  |none=>simp[mN]at h
  |some i1=>
   cases nM:gD ρ q with
   |none=>simp[mN,nM]at h
   |some p2=>
    simp[mN,nM]at h
    subst h
    simp[gD,mN,QB hi nM]
theorem eX.row{G1:Gh}{id:Nat}{dp:Bool}{p:List (Nat×Nat)}{xs:List (List T)}{b n cap i wd:Nat}{r:List T}(h:eX G1 w id dp p (.l xs))
  (hH:G1.H id p=.slice (some ⟨b,0,none⟩) n cap)(hr:xs[i]?=some r)(hl:r.length=wd)(j:Nat)(t:T)(ht:r[j]?=some t):
  ∃v,w.cell? ⟨b,i*wd+j,none⟩=some v∧(∀u,t=.c u->v=u∧j_ u=true)∧(∀ys,t=.l ys->dp=false->eM G1.q w t v)∧(∀ys,t=.l ys->dp=true->v=G1.H id (p++[(i,j)])):=by
 cases h with
 |nil h=>simp at hr
 | @l _ _ _ b' DY xT bT elem cv g1 g2 g3 g4 g5 g6 g7 g8 g9 xU DZ=>
  rw[hH]at g1
  cases g1
  have hw:DY=wd:=by rw[<-hl,g6 r (List.mem_of_getElem? hr)]
  subst hw
  have bE:dK xs i j=some t:=by simp[dK,hr,ht]
  refine⟨cv i j,by rw[xN g4];exact g7 i j t bE,λu hu=>?_,λys hy hd=>?_,λys hy hd=>?_⟩
  ·subst hu;exact g8 i j u bE
  ·subst hy;exact g9 i j ys bE hd
  ·subst hy;exact xU i j ys bE hd
theorem xV{t:T}(h:eA t=true):∃v,t=.c v:=by
 cases t with
 |c v=>exact⟨v,rfl⟩
 |l _=>simp[eA]at h
theorem eM.row{ω:Nat->Option Lb}{xs:List (List T)}{b o n cap i wd:Nat}{r:List T}(h:eM ω w (.l xs) (.slice (some ⟨b,o,none⟩) n cap))
  (hr:xs[i]?=some r)(hl:r.length=wd):ω b=none∧b<w.heap.size∧∀(j:Nat) (t:T),r[j]?=some t->∃v,w.cell? ⟨b,o+i*wd+j,none⟩=some v∧eM ω w t v:=by
 generalize hv:Value.slice (some (⟨b,o,none⟩:Addr)) n cap=v at h
 cases h with
 |nil=>simp at hr
 | @l _ b' aeq DY xT cv h1 h2 h3 h4 h5 h6=>
  cases hv
  have hw:DY=wd:=by rw[<-hl,h1 r (List.mem_of_getElem? hr)]
  subst hw
  refine⟨h3,h4,λj t ht=>?_⟩
  have bE:dK xs i j=some t:=by simp[dK,hr,ht]
  exact⟨cv i j,by rw[Nat.add_assoc];exact h5 i j t bE,h6 i j t bE⟩
theorem Wk.lK:∀(zs:List Ce) (k:Wk) (y ix:Lf) (id:Nat) (q:mJ) (wd off:Nat),k.eP (k.oY y ix id q wd off zs).1
 | [],k,_,_,_,_,_,_=>.refl k
 |z::zs,k,y,ix,id,q,wd,off=>by
  unfold Wk.oY
  cases fB z with
  |true=>exact(Wk.bF k _ _).trans (Wk.lK zs _ y ix id q wd (off+1))
  |false=>exact(Wk.bF k _ _).trans (Wk.lK zs _ y ix id q wd (off+1))
theorem Wk.kW:∀(zs:List Ce) (k:Wk) (y ix:Lf) (id:Nat) (q:mJ) (wd off:Nat),(k.oY y ix id q wd off zs).1.bA S ρ->k.bA S ρ
 | [],_,_,_,_,_,_,_,h=>h
 |z::zs,k,y,ix,id,q,wd,off,h=>by
  unfold Wk.oY at h
  cases hz:fB z with
  |true=>rw[hz]at h;exact(Wk.bO (Wk.kW zs _ y ix id q wd (off+1) h)).1
  |false=>rw[hz]at h;exact(Wk.bO (Wk.kW zs _ y ix id q wd (off+1) h)).1
theorem Wk.pH{G1:Gh}{y ix:Lf}{xs:List (List T)}{i wd id b base:Nat}{q:mJ}{p:List (Nat×Nat)}(hx:y.fE ρ=some (.l xs))(hi:lI ρ ix=some i)(hp:gD ρ q=some p)(Ai:id%2=1)
  (gb:∀r,xs[i]?=some r->r.length=wd->∀j t,r[j]?=some t->∃u,w.cell? ⟨b,base+j,none⟩=some u∧(∀v,t=.c v->u=v∧j_ v=true)∧∀ys,t=.l ys->u=G1.H id (p++[(i,j)])):
  ∀(zs:List Ce) (k:Wk) (off:Nat),(k.oY y ix id q wd off zs).1.bA S ρ->
   ∃vs:List Value,vs.length=zs.length∧(∀j v,vs[j]?=some v->w.cell? ⟨b,base+off+j,none⟩=some v)∧aX G1 w ρ (k.oY y ix id q wd off zs).2 vs∧∀j∈dF (k.oY y ix id q wd off zs).2,j=id
 | [],k,off,_=>⟨[],rfl,λj v hj=>by simp at hj,trivial,λj hj=>by simp[Wk.oY,dF]at hj⟩
 |z::zs,k,off,hd=>by
  unfold Wk.oY at hd⊢
  cases hz:fB z with
  |true=>
   rw[hz]at hd
   simp only[cond_true]at hd⊢
   obtain⟨_,t,ht,_⟩:=Wk.bO (Wk.kW zs _ _ _ _ _ _ (off+1) hd)
   obtain⟨ys,rfl,bE,r,h1,h2⟩:=DT hx hi ht
   have h3:r[off]?=some (.l ys):=by simpa[dK,h1]using bE
   obtain⟨u,h5,_,h6⟩:=gb r h1 h2 off _ h3
   obtain⟨vs,g1,g2,g3,g4⟩:=Wk.pH hx hi hp Ai gb zs _ (off+1) hd
   refine⟨u::vs,by simp[g1],λj v hj=>?_,⟨⟨_,adX (QB hi hp) Ai,h6 ys rfl⟩,g3⟩,λj hj=>?_⟩
   ·cases j with
    |zero=>simp at hj;subst hj;simpa using h5
    |succ j=>
     have:=g2 j v (by simpa using hj)
     rwa[show base+(off+1)+j=base+off+(j+1) by omega]at this
   ·simp only[dF,List.mem_cons]at hj
    rcases hj with hj|hj
    ·exact hj
    ·exact g4 j hj
  |false=>
   rw[hz]at hd
   simp only[cond_false]at hd⊢
   obtain⟨_,t,ht,hy⟩:=Wk.bO (Wk.kW zs _ _ _ _ _ _ (off+1) hd)
   obtain⟨r,h1,h2,h3,h4⟩:=I0 (sc:=true) hx hi ht
   obtain⟨c,rfl⟩:=xV (h4 rfl)
   obtain⟨u,h5,h6,_⟩:=gb r h1 h2 off _ h3
   obtain⟨rfl,hs⟩:=h6 c rfl
   obtain⟨vs,g1,g2,g3,g4⟩:=Wk.pH hx hi hp Ai gb zs _ (off+1) hd
   refine⟨u::vs,by simp[g1],λj v hj=>?_,⟨⟨.c u,hy,.c hs⟩,g3⟩,λj hj=>g4 j (by simpa[dF]using hj)⟩
   cases j with
   |zero=>simp at hj;subst hj;simpa using h5
   |succ j=>
    have:=g2 j v (by simpa using hj)
    rwa[show base+(off+1)+j=base+off+(j+1) by omega]at this
theorem aer(dT:eu P cx)(h:Rel M B d up s ρ G a w)(hn:∀n,o.dst=some n->n<a.tmps.size){x:Operand}{t:Nat}(ho:o.op=.load t x)
  (hk:∃k1 v,loadAt cx (cx.nest cC) ⟨s.only R,[],ct,[]⟩ t (ch d (Wk.get ⟨s.only R,[],ct,[]⟩) x)=some (k1,v)∧bX d o k1 v=k')(hd:k'.bA S ρ):bJ P M B d up ρ a w s o k'.w Q∧k'.ct.i=ct.i:=by
 have hw:=dh.start h R ct
 obtain⟨hr,hm⟩:=hw.iy x
 obtain⟨k1,v,hv,hk⟩:=hk
 have cK:bX d o k1 v=k':=hk
 subst cK
 have fx:=cL.1 hd
 have exe:∀{val:Value} {b off:Nat},a.eval x=.pointer (some ⟨b,off,none⟩)->(Instr.loadAt t (.pointer (some ⟨b,off,none⟩))).run P w=.ok val w->(execOp a.eval o).run P w=.ok (.value val) w:=by
  intro val b off he hl
  refine CN (x:=Instr.loadAt t (a.eval x)) (by unfold execOp;rw[ho]) ?_
  rw[he];exact hl
 have qT:∀{k0:Wk} {G1:Gh} {ti:TI} {y ix:Lf} {xs:List (List T)} {i wd off b base:Nat} {sc:Bool},cx.ty t=some ti->dh M B d up ρ G a w k0 G1->k0.ct.i=ct.i->
   y.fE ρ=some (.l xs)->lI ρ ix=some i->a.eval x=.pointer (some ⟨b,base+off,none⟩)->
   (∀r,xs[i]?=some r->r.length=wd->∀j t,r[j]?=some t->(sc=true->eA t=true)->∃u,w.cell? ⟨b,base+j,none⟩=some u∧eM G1.q w t u)->
   (k0.row sc y ix wd off ti.sz).1=k1->SV.v ti.ag (k0.row sc y ix wd off ti.sz).2=v->bJ P M B d up ρ a w s o (bX d o k1 v).w Q∧(bX d o k1 v).ct.i=ct.i:=by
  intro k0 G1 ti y ix xs i wd off b base sc fJ uJ kf hy hi he gb h1 h2
  subst h1 h2
  obtain⟨vs,g1,g2,g3,g4⟩:=Wk.wH (S:=S) hy hi gb ti.sz k0 off fx
  have hT:=dT.ty _ _ fJ
  refine⟨rD h (uJ.same (Wk.pG _ _ _ _ _ _ _)) hn (exe he (Qz hT g1 g2)) (Ah hT g3 g1) (λj hj=>by simp[de,g4]at hj) Q,?_⟩
  rw[mM,(Wk.pG ti.sz k0 sc y ix wd off).i,kf]
 unfold loadAt at hv
 split at hv
 ·rename_i bx off dV
  rw[dV]at hr hm
  simp only[cG]at hv
  obtain⟨ti,fJ,hv⟩:=hv
  split at hv
  ·rename_i ag cs uK
   cases hle:Nat.ble (off+ti.sz) cs.length with
   |false=>simp[hle]at hv
   |true=>
    simp only[hle,cond_true,br,Prod.mk.injEq]at hv
    obtain⟨rfl,rfl⟩:=hv
    have hb:=hw.rel.bx bx
    rw[<-Wk.aS,uK]at hb
    obtain⟨_,bT,elem,hh,kg⟩:=hb
    have hT:=dT.ty _ _ fJ
    have aes:=(kg.drop off).take ti.sz
    have hlen:((bT.toList.drop off).take ti.sz).length=ti.sz:=by
     have:=kg.length
     have:=Nat.le_of_ble_eq_true hle
     simp only[List.length_take,List.length_drop]
     omega
    refine⟨rD h hw hn (exe hr (Qz hT hlen λj v hj=>?_)) (Ah hT aes hlen) (λj hj=>?_) Q,by rw[mM]⟩
    ·rw[xN hh]
     rw[List.getElem?_take]at hj
     split at hj
     ·rw[List.getElem?_drop]at hj;simpa using hj
     ·cases hj
    ·have xW:=IY cs off j (IZ _ _ j hj)
     refine hw.rel.fQ (.x bx) j ?_
     rw[<-Wk.aS,uK];exact xW
  ·cases hv
 ·rename_i s' ix wd off dV
  rw[dV]at hr
  simp only[cG,br,Prod.mk.injEq]at hv
  obtain⟨ti,fJ,h1,h2⟩:=hv
  obtain⟨xs,i,r,b,base,e1,e2,e3,e4,e5⟩:=hr
  refine qT fJ hw rfl e1 e2 e4 (λr' iN hl j t' ht _=>?_) h1 h2
  rw[e3]at iN
  cases iN
  exact(e5 hl).2.2 j t' ht
 ·rename_i id q ix wd off dV
  rw[dV]at hr
  simp only[cG]at hv
  obtain⟨ti,fJ,hv⟩:=hv
  obtain⟨p,b,n,cap,i,e1,e2,e3,e4,e5⟩:=hr
  have ei:=hw.obj id
  split at hv
  ·rename_i y hy
   rw[hy]at ei
   obtain⟨tt,ht,bI⟩:=ei
   have pI:∃ys,tt=.l ys:=by cases bI<;>exact⟨_,rfl⟩
   cases qU:(cx.nest cC&&ti.zero.any fB&&Nat.beq ti.zero.length ti.sz&&Nat.beq (id%2) 1)with
   |true=>
    simp only[qU,cond_true,br,Prod.mk.injEq]at hv
    obtain⟨h1,h2⟩:=hv
    subst h1 h2
    have Ai:id%2=1:=by
     simp only[bk]at qU
     exact dN qU.2
    have qD:ti.zero.length=ti.sz:=by
     simp only[bk]at qU
     exact dN qU.1.2
    have QC:=Wk.kW _ _ _ _ _ _ _ _ fx
    obtain⟨z,hz,zm,aet⟩:=Wk.iJ q _ y QC ht (ta e1) (.inr pI)
    have Aj:∃ys,z=.l ys:=by
     rcases aet with rfl|h'
     ·simp only[l7]at e1;cases e1;simp[iw]at hz;subst hz;exact pI
     ·exact h'
    obtain⟨zs,rfl⟩:=Aj
    have kX:=eX.dJ p bI hz ⟨zs,rfl⟩
    simp only[List.nil_append]at kX
    obtain⟨vs,g1,g2,g3,g4⟩:=Wk.pH (S:=S) (b:=b) (base:=i*wd) (wd:=wd) zm e3 (ta e1) Ai (λr iN hl j t' jA=>by
     obtain⟨v',hc,ha,_,hb⟩:=kX.row e2 iN hl j t' jA
     exact⟨v',hc,ha,λys hy=>hb ys hy rfl⟩) ti.zero _ off fx
    have hT:=dT.ty _ _ fJ
    refine⟨rD h ((hw.same (Wk.ff q _ y)).same (Wk.lK _ _ _ _ _ _ _ _)) hn (exe e5 (Qz hT (by rw[g1,qD]) g2)) (Ah hT g3 (by rw[g1,qD])) (λj hj=>?_) Q,?_⟩
    ·have:=g4 j (by simpa[de]using hj)
     subst this
     rw[dV]at hm
     exact hm j (by simp[de])
    ·rw[mM,(Wk.lK _ _ _ _ _ _ _ _).i,(Wk.ff q _ y).i]
   |false=>
    simp only[qU,cond_false]at hv
    cases hz:ti.zero.any fB with
    |true=>
     simp only[hz,cond_true]at hv
     split at hv
     ·cases jg:Nat.beq (id%2) 0 with
      |true=>
       simp only[jg,cond_true,br,Prod.mk.injEq]at hv
       obtain⟨h1,h2⟩:=hv
       have aeu:=dN jg
       simp only[l7]at e1
       cases e1
       obtain⟨ys,rfl⟩:=pI
       refine qT fJ hw rfl ht e3 e5 (λr iN hl j t' jA _=>?_) h1 h2
       obtain⟨v',hc,ha,_,hb⟩:=bI.row e2 iN hl j t' jA
       refine⟨v',hc,?_⟩
       cases t' with
       |c u=>obtain⟨rfl,hs⟩:=ha u rfl;exact .c hs
       |l zs=>
        rw[hb zs rfl rfl]
        have bE:dK ys i j=some (.l zs):=by simp[dK,iN,jA]
        have kX:=eX.dJ [(i,j)] bI (by simp[iw,bE]) ⟨zs,rfl⟩
        exact kX.Qp (.inr ⟨aeu,by simp⟩) rfl
      |false=>
      simp only[jg,cond_false]at hv
      simp only[cG,br,Prod.mk.injEq]at hv
      obtain⟨k2,cK,h1,h2⟩:=hv
      obtain⟨G2,Hz,DQ,hH,qE,o8,his⟩:=hw.flat cK
      simp only[l7]at e1
      cases e1
      have QD:=Hz.obj id
      have QE:k2.get (.o id)=.ob false y:=by
       unfold Wk.flat at cK
       rw[hy]at cK
       cases cK
       simp[Wk.get,Wk.set,St.bg]
      rw[QE]at QD
      obtain⟨tt2,Ak,pJ⟩:=QD
      obtain⟨ys,rfl⟩:∃ys,tt2=.l ys:=by cases pJ<;>exact⟨_,rfl⟩
      refine qT fJ Hz (by rw[o8]) Ak e3 e5 (λr iN hl j t' jA _=>?_) h1 h2
      obtain⟨v',hc,ha,hb,_⟩:=pJ.row (by rw[hH];exact e2) iN hl j t' jA
      refine⟨v',hc,?_⟩
      cases t' with
      |c u=>obtain⟨rfl,hs⟩:=ha u rfl;exact .c hs
      |l zs=>exact hb zs rfl rfl
     ·cases hv
    |false=>
     simp only[hz,cond_false,br,Prod.mk.injEq]at hv
     obtain⟨h1,h2⟩:=hv
     subst h1 h2
     have QC:=Wk.rF _ _ _ _ _ _ _ fx
     obtain⟨z,sB,zm,qD⟩:=Wk.iJ q _ y QC ht (ta e1) (.inr pI)
     have Aj:∃ys,z=.l ys:=by
      rcases qD with rfl|h'
      ·simp only[l7]at e1;cases e1;simp[iw]at sB;subst sB;exact pI
      ·exact h'
     obtain⟨zs,rfl⟩:=Aj
     have kX:=eX.dJ p bI sB ⟨zs,rfl⟩
     simp only[List.nil_append]at kX
     refine qT fJ (hw.same (Wk.ff q _ y)) (by rw[(Wk.ff q _ y).i]) zm e3 e5 (λr iN hl j t' jA l9=>?_) rfl rfl
     obtain⟨v',hc,ha,_,_⟩:=kX.row e2 iN hl j t' jA
     obtain⟨u,rfl⟩:=xV (l9 rfl)
     obtain⟨rfl,hs⟩:=ha u rfl
     exact⟨_,hc,.c hs⟩
  ·rename_i y hy
   rw[hy]at ei
   split at hv
   ·simp only[br,Prod.mk.injEq]at hv
    obtain⟨h1,h2⟩:=hv
    obtain⟨tt,ht,bI⟩:=ei
    obtain⟨ys,rfl⟩:∃ys,tt=.l ys:=by cases bI<;>exact⟨_,rfl⟩
    simp only[l7]at e1
    cases e1
    refine qT fJ hw rfl ht e3 e5 (λr iN hl j t' jA _=>?_) h1 h2
    obtain⟨v',hc,ha,hb,_⟩:=bI.row e2 iN hl j t' jA
    refine⟨v',hc,?_⟩
    cases t' with
    |c u=>obtain⟨rfl,hs⟩:=ha u rfl;exact .c hs
    |l zs=>exact hb zs rfl rfl
   ·cases hv
  ·rename_i y hy
   rw[hy]at ei
   split at hv
   ·simp only[br,Prod.mk.injEq]at hv
    obtain⟨h1,h2⟩:=hv
    obtain⟨tt,ht,dZ,_⟩:=ei
    simp only[l7]at e1
    cases e1
    rw[e2]at dZ
    obtain⟨ys,rfl⟩:∃ys,tt=.l ys:=by
     cases tt with
     |c v=>have:=dZ.scalar;cases this.1▸this.2
     |l ys=>exact⟨ys,rfl⟩
    refine qT (b:=b) (base:=i*wd) fJ hw rfl ht e3 e5 (λr iN hl j t' jA _=>?_) h1 h2
    obtain⟨v',hc,oG⟩:=(dZ.row iN hl).2.2 j t' jA
    exact⟨v',by simpa using hc,oG⟩
   ·cases hv
  ·cases hv
 ·cases hv
theorem aev{x i:T}{r:T}(h:Prim.ev .bW [x,i]=some r):∃xs kk n,x=.l xs∧i=.c (.int kk n)∧0<=n∧∃row,xs[n.toNat]?=some row:=by
 simp only[Prim.ev,uE,cG]at h
 obtain⟨row,⟨xs,hx,n,hn,hr⟩,_⟩:=h
 cases x with
 |c v=>simp[T.rows]at hx
 |l ys=>
  simp only[T.rows,br]at hx
  subst hx
  cases i with
  |l _=>simp[T.int]at hn
  |c v=>
   cases v with
   |int kk m=>
    simp only[T.int,br]at hn
    subst hn
    split at hr
    ·rename_i h0;exact⟨ys,kk,m,rfl,rfl,h0,row,hr⟩
    ·cases hr
   |_=>simp[T.int]at hn
theorem QF{x:Lf}{kk:IntKind}{n:Int}(h:x.fE ρ=some (.c (.int kk n)))(h0:0<=n):lI ρ x=some n.toNat:=by
 simp[lI,h,h0]
theorem aew{t:Nat}{ti te:TI}(hT:td P t ti)(hE:td P ti.el te)(hk:ti.kd=3){b off len cap:Nat}{kk:IntKind}{n:Int}(h0:0<=n)(hn:n<len):
  (Instr.indexAt t (.slice (some ⟨b,off,none⟩) len cap) (.int kk n)).run P w=.ok (.pointer (some ⟨b,off+n.toNat*te.sz,none⟩)) w:=by
 have hu:=hT.sl hk
 obtain⟨i,z,hi,hs,_,_,_⟩:=hE.info
 simp[Instr.indexAt,asIntOf,run_underlying hu,h0,hn,sizeOf,typeInfo,hi,hs,Addr.add_lit]
theorem I1{lo:Lf}{n:Nat}(h:Hv lo=true)(h2:lI ρ lo=some n):n=0:=by
 unfold Hv at h
 split at h
 ·rename_i k m
  have hm:m=0:=of_decide_eq_true h
  subst hm
  simp[lI,Lf.fE,j_]at h2
  exact h2.symm
 ·cases h
theorem aex(dT:eu P cx)(h:Rel M B d up s ρ G a w)(hn:∀n,o.dst=some n->n<a.tmps.size){x y:Operand}{t:Nat}(ho:o.op=.indexAddr t x y)
  (hk:iI cx cC eW d o oi ⟨s.only R,[],ct,[]⟩=some k')(hd:k'.bA S ρ):bJ P M B d up ρ a w s o k'.w Q∧k'.ct.i=ct.i:=by
 have hw:=dh.start h R ct
 obtain⟨hr,hm⟩:=hw.iy x
 have IV:=(hw.iy y).1
 simp only[iI,ho,indexAt,cG,br]at hk
 obtain⟨⟨k1,v⟩,⟨ti,fJ,te,pF,hv⟩,hk⟩:=hk
 have cK:bX d o k1 v=k':=hk
 subst cK
 have fx:=cL.1 hd
 have hT:=dT.ty _ _ fJ
 have hE:=dT.ty _ _ pF
 cases iz:Nat.beq ti.kd 3 with
 |false=>simp[iz]at hv
 |true=>
  have o6:=dN iz
  simp only[iz,cond_true,cG]at hv
  obtain⟨⟨k2,ix⟩,h1,hv⟩:=hv
  have exe:∀{b off len cap:Nat} {kk:IntKind} {n:Int},a.eval x=.slice (some ⟨b,off,none⟩) len cap->a.eval y=.int kk n->0<=n->n<len->
    (execOp a.eval o).run P w=.ok (.value (.pointer (some ⟨b,off+n.toNat*te.sz,none⟩))) w:=by
   intro b off len cap kk n e1 e2 h0 be
   refine CN (x:=Instr.indexAt t (a.eval x) (a.eval y)) (by unfold execOp;rw[ho]) ?_
   rw[e1,e2];exact aew hT hE o6 h0 be
  have mN:Wk.eP ⟨s.only R,[],ct,[]⟩ k2:=by
   unfold Wk.one at h1;split at h1
   ·exact Wk.dO h1
   ·cases h1
  have ixv:∀{k3:Wk} {z:Lf},(k3.em .bW [z,ix]).1.bA S ρ->(k3.bA S ρ->k2.bA S ρ)->∃xs kk n row,k3.bA S ρ∧z.ev ρ=.l xs∧a.eval y=.int kk n∧0<=n∧xs[n.toNat]?=some row∧lI ρ ix=some n.toNat:=by
   intro k3 z zn I2
   obtain⟨HA,r,rG,_⟩:=Wk.bO zn
   obtain⟨_,_,t1,QG,l8⟩:=Wk.gW hw h1 (I2 HA) IV
   simp only[List.map_cons,List.map_nil,Lf.bM QG]at rG
   obtain⟨xs,kk,n,hx,hi,h0,row,gb⟩:=aev rG
   subst hi
   obtain⟨e,_⟩:=l8.scalar
   exact⟨xs,kk,n,row,HA,hx,e,h0,gb,QF QG h0⟩
  have Al:∀{xs:List (List T)} {n:Int} {row:List T},0<=n->xs[n.toNat]?=some row->n<xs.length:=by
   intro xs n row h0 gb
   have:=(List.getElem?_eq_some_iff.1 gb).1
   omega
  have plain:∀{z:Lf} {tt:T} {val:Value} {k3:Wk} ,k3=k2->z.fE ρ=some tt->eM G.q w tt val->a.eval x=val->k1=(k3.em .bW [z,ix]).1->v=.fp z ix te.sz 0->
    bJ P M B d up ρ a w s o (bX d o k1 v).w Q∧(bX d o k1 v).ct.i=ct.i:=by
   intro z tt val k3 iz hz dZ gX e1 e2
   subst iz e1 e2
   obtain⟨xs,kk,n,row,_,hx,he,h0,gb,cm⟩:=ixv fx id
   rw[Lf.bM hz]at hx
   subst hx
   have be:=Al h0 gb
   obtain⟨ad,cap,sC,_⟩:=dZ.rows
   subst sC
   cases dZ with
   |nil=>simp at be;omega
   | @l _ b off DY xT cv g1 g2 g3 g4 g5 g6=>
    refine⟨rD h ((hw.same mN).same (Wk.bF _ _ _)) hn (x:=.fp z ix te.sz 0) (exe gX he h0 be) ?_ (λi hi=>by simp[de]at hi) Q,?_⟩
    ·refine⟨xs,n.toNat,row,b,off+n.toNat*te.sz,hz,cm,gb,rfl,λhl=>?_⟩
     exact(eM.l g1 g2 g3 g4 g5 g6).row gb hl
    ·rw[mM,(Wk.bF _ _ _).i,mN.i]
  have owned:∀{id:Nat} {q:mJ} {p:List (Nat×Nat)} {z:Lf} {zs:List (List T)} {dp:Bool} {k3:Wk},k2.eP k3->(k3.bA S ρ->k2.bA S ρ)->kR ρ id q=some p->
    z.fE ρ=some (.l zs)->eX G w id dp p (.l zs)->a.eval x=G.H id p->M id->k1=(k3.em .bW [z,ix]).1->v=.ep id q ix te.sz 0->
    bJ P M B d up ρ a w s o (bX d o k1 v).w Q∧(bX d o k1 v).ct.i=ct.i:=by
   intro id q p z zs dp k3 hsm I2 hp hz bI gX hM e1 e2
   subst e1 e2
   obtain⟨xs,kk,n,row,_,hx,he,h0,gb,cm⟩:=ixv fx I2
   rw[Lf.bM hz]at hx
   cases hx
   have be:=Al h0 gb
   cases bI with
   |nil hH=>simp at be;omega
   | @l _ _ _ b DY xT bT elem cv g1 g2 g3 g4 g5 g6 g7 g8 g9 xU DZ=>
    refine⟨rD h ((((hw.same mN).same hsm)).same (Wk.bF _ _ _)) hn (x:=.ep id q ix te.sz 0) (exe (by rw[gX,g1]) he h0 be) ?_ (λi hi=>by simp[de]at hi;rw[hi];exact hM) Q,?_⟩
    ·exact⟨p,b,_,_,n.toNat,hp,g1,cm,by omega,by simp⟩
    ·rw[mM,(Wk.bF _ _ _).i,hsm.i,mN.i]
  split at hv
  ·rename_i z dV
   rw[dV]at hr
   obtain⟨e,he,qs,_⟩:=hr
   cases he
   obtain⟨tt,hz,dZ⟩:=qs
   simp only[br,Prod.mk.injEq]at hv
   exact plain rfl hz dZ rfl hv.1.symm hv.2.symm
  ·rename_i id q dV
   rw[dV]at hr hm
   obtain⟨e,he,qs,_⟩:=hr
   cases he
   obtain⟨p,hp,gX⟩:=qs
   have hM:M id:=hm id (by simp[de,dF])
   have ei:=(hw.same mN).obj id
   split at hv
   ·rename_i q' z hz
    rw[hz]at ei
    obtain⟨tt,ht,bI⟩:=ei
    have pI:∃ys,tt=.l ys:=by cases bI<;>exact⟨_,rfl⟩
    simp only[br,Prod.mk.injEq]at hv
    obtain⟨e1,e2⟩:=hv
    subst e1
    have QC:=(Wk.bO fx).1
    obtain⟨u,hu,zm,qD⟩:=Wk.iJ _ _ z QC ht (ta hp) (.inr pI)
    have Aj:∃ys,u=.l ys:=by
     rcases qD with hq0|h'
     ·have hp:=ta hp;rw[hq0]at hp;simp only[gD]at hp;cases hp;simp[iw]at hu;subst hu;exact pI
     ·exact h'
    obtain⟨zs,rfl⟩:=Aj
    have kX:=eX.dJ p bI hu ⟨zs,rfl⟩
    simp only[List.nil_append]at kX
    exact owned (Wk.ff _ _ z) (Wk.kU _ _ _) hp zm kX gX hM rfl e2.symm
   ·rename_i z hz
    rw[hz]at ei
    obtain⟨tt,ht,bI⟩:=ei
    obtain⟨ys,rfl⟩:∃ys,tt=.l ys:=by cases bI<;>exact⟨_,rfl⟩
    simp only[br,Prod.mk.injEq]at hv
    simp only[l7]at hp
    cases hp
    exact owned (.refl _) (λh=>h) rfl ht bI gX hM hv.1.symm hv.2.symm
   ·rename_i tk x0 lo z hz
    rw[hz]at ei
    obtain⟨tt,ht,dZ,_,F,n0,zs,_,nN,rfl,_,tg,hz0⟩:=ei
    simp only[l7]at hp
    cases hp
    cases qD:Hv lo with
    |false=>
     simp only[qD,cond_false,br,Prod.mk.injEq]at hv
     exact plain rfl ht dZ gX hv.1.symm hv.2.symm
    |true=>
     simp only[qD,cond_true,br,Prod.mk.injEq]at hv
     have Am:n0=0:=I1 qD nN
     obtain⟨e1,e2⟩:=hv
     subst e1 e2
     obtain⟨xs,kk,n,row,_,hx,he,h0,gb,cm⟩:=ixv fx (λh=>h)
     rw[Lf.bM ht]at hx
     cases hx
     have be:=Al h0 gb
     obtain⟨ad,cap,sC,_⟩:=dZ.rows
     rw[sC]at dZ
     generalize sA:Value.slice ad zs.length cap=vv at dZ
     cases dZ with
     |nil=>simp at be;omega
     | @l _ b off DY xT cv g1 g2 g3 g4 g5 g6=>
      cases sA
      have An:=hz0 Am b off _ _ sC
      subst An
      refine⟨rD h ((hw.same mN).same (Wk.bF _ _ _)) hn (x:=.ep id [] ix te.sz 0) (exe (by rw[gX,sC]) he h0 be) ?_ (λi hi=>by simp[de]at hi;rw[hi];exact hM) Q,?_⟩
      ·exact⟨[],b,_,_,n.toNat,rfl,sC,cm,by omega,by simp⟩
      ·rw[mM,(Wk.bF _ _ _).i,mN.i]
   ·rename_i pv z _ hz
    rw[hz]at ei
    obtain⟨tt,ht,dZ,_⟩:=ei
    simp only[br,Prod.mk.injEq]at hv
    simp only[l7]at hp
    cases hp
    exact plain rfl ht dZ gX hv.1.symm hv.2.symm
   ·cases hv
  ·cases hv
theorem aX.append:∀{cs es:List Ce} {vs us:List Value},aX G w ρ cs vs->aX G w ρ es us->aX G w ρ (cs++es) (vs++us)
 | [],_,[],_,_,h=>h
 | [],_,_::_,_,h,_=>h.elim
 |_::_,_,[],_,h,_=>h.elim
 |_::cs,_,_::vs,_,h,h'=>⟨h.1,aX.append h.2 h'⟩
theorem aX.gk{cs es:List Ce}{vs us:List Value}(off:Nat)(h:aX G w ρ cs vs)(h':aX G w ρ es us):
  aX G w ρ (gk cs off es) (vs.take off++us++vs.drop (off+us.length)):=by
 unfold Go.Proofs.YtjimmglpkndemaaGreatC.gk
 rw[<-h'.length]
 exact((h.take off).append h').append (h.drop _)
theorem I3(cs es:List Ce):dF (cs++es)=dF cs++dF es:=by
 induction cs with
 |nil=>rfl
 |cons c cs ih=>rw[List.cons_append,xL,xL c cs,ih,List.append_assoc]
theorem QH(cs es:List Ce)(off:Nat):∀i∈dF (gk cs off es),i∈dF cs∨i∈dF es:=by
 intro i hi
 unfold gk at hi
 rw[I3,I3]at hi
 simp only[List.mem_append]at hi
 rcases hi with(hi|hi)|hi
 ·exact .inl (IZ _ _ i hi)
 ·exact .inr hi
 ·exact .inl (IY _ _ i hi)
def xX:List Value->Nat->Array Value->Array Value
 | [],_,c=>c
 |v::vs,off,c=>xX vs (off+1) (c.setIfInBounds off v)
theorem QI(off:Nat):∀(vs:List Value) (j:Nat) (c:Array Value),
  (vs.zipIdx j).foldl (λcs p=>cs.setIfInBounds (off+p.2) p.1) c=xX vs (off+j) c
 | [],_,_=>rfl
 |v::vs,j,c=>by
  simp only[List.zipIdx_cons,List.foldl_cons,xX]
  rw[QI off vs (j+1),Nat.add_assoc]
theorem OV:∀(vs:List Value) (off:Nat) (c:Array Value),(xX vs off c).size=c.size
 | [],_,_=>rfl
 |v::vs,off,c=>by simp[xX,OV vs]
theorem OW:∀(vs:List Value) (off:Nat) (c:Array Value) (i:Nat),off+vs.length<=c.size->
  (xX vs off c)[i]?=if off<=i∧i<off+vs.length then vs[i-off]? else c[i]?
 | [],off,c,i,_=>by
  simp only[xX,List.length_nil]
  rw[if_neg (by omega)]
 |v::vs,off,c,i,h=>by
  simp only[List.length_cons]at h
  simp only[xX]
  rw[OW vs (off+1) _ i (by simp;omega)]
  by_cases h1:i=off
  ·subst h1
   rw[if_neg (by omega),if_pos (by simp)]
   simp[show i<c.size by omega]
  ·by_cases h2:off+1<=i∧i<off+1+vs.length
   ·rw[if_pos h2,if_pos (by simp;omega)]
    rw[show i-off=(i-(off+1))+1 by omega]
    simp
   ·rw[if_neg h2,if_neg (by simp;omega)]
    rw[Array.getElem?_setIfInBounds_ne (by omega)]
theorem jP_(vs:List Value)(off:Nat)(c:Array Value)(h:off+vs.length<=c.size):
  (xX vs off c).toList=c.toList.take off++vs++c.toList.drop (off+vs.length):=by
 apply List.ext_getElem?
 intro i
 rw[Array.getElem?_toList,OW vs off c i h]
 have hl:(c.toList.take off).length=off:=by simp;omega
 by_cases h1:i<off
 ·rw[if_neg (by omega),List.append_assoc,List.getElem?_append_left (by omega),List.getElem?_take,if_pos h1,Array.getElem?_toList]
 ·rw[List.append_assoc,List.getElem?_append_right (by omega),hl]
  by_cases h2:i<off+vs.length
  ·rw[if_pos ⟨by omega,h2⟩,List.getElem?_append_left (by omega)]
  ·rw[if_neg (by omega),List.getElem?_append_right (by omega),List.getElem?_drop,Array.getElem?_toList]
   congr 1
   omega
theorem QJ{ag:Bool}{cs:List Ce}{v:Value}(h:eY G w ρ ag cs v):aX G w ρ cs v.cells.toList:=by
 cases ag with
 |true=>obtain⟨vs,rfl,h⟩:=h;exact h
 |false=>
  obtain⟨e,rfl,h,hn⟩:=h
  have:v.cells=#[v]:=by
   cases v<;>first|rfl|exact absurd rfl (hn _)
  rw[this]
  exact⟨h,trivial⟩
theorem I4:∀{cs:List Ce} {vs:List Value},Ae cs vs->aX G w ρ cs vs∧dF cs=[]
 | [],[],_=>⟨trivial,rfl⟩
 | [],_::_,h=>h.elim
 | .p (.k v)::cs,v'::vs,h=>by
  obtain⟨rfl,hs,h⟩:=h
  obtain⟨h1,h2⟩:=I4 h
  exact⟨⟨⟨.c v,by simp[Lf.fE,hs],.c hs⟩,h1⟩,by simp[dF,h2]⟩
 | .n::cs,v::vs,h=>by
  obtain⟨rfl,h⟩:=h
  obtain⟨h1,h2⟩:=I4 h
  exact⟨⟨rfl,h1⟩,by simp[dF,h2]⟩
 | .p (.k _)::_,[],h=>h.elim
 | .n::_,[],h=>h.elim
 | .p (.a _)::_,[],h=>h.elim
 | .p (.a _)::_,_::_,h=>h.elim
 | .p .e::_,[],h=>h.elim
 | .p .e::_,_::_,h=>h.elim
 | .o _ _::_,[],h=>h.elim
 | .o _ _::_,_::_,h=>h.elim
 | .d::_,[],h=>h.elim
 | .d::_,_::_,h=>h.elim
theorem I5{G1:Gh}{k:Wk}(hw:dh M B d up ρ G a w k G1){fs:List (Nat×Nat)}{place:Nat->Option (Nat×Nat)}(D0:∀f o,fs[f]?=some o->place f=some o):
  ∀(ps:List (Nat×Operand)) (l:List (Nat×List Ce)) (zs cs:List Ce) (bT:Array Value),parts d k.get fs ps=some l->xB zs l=some cs->aX G1 w ρ zs bT.toList->
   (∀i∈dF zs,M i)->∃kq,Instr.fill place bT (ps.map λp=>(p.1,a.eval p.2))=some kq∧aX G1 w ρ cs kq.toList∧(∀i∈dF cs,M i)∧kq.size=bT.size
 | [],l,zs,cs,bT,hp,hc,hz,hi=>by
  simp only[parts,br]at hp
  subst hp
  simp only[xB,br]at hc
  subst hc
  exact⟨bT,rfl,hz,hi,rfl⟩
 |(f,x)::ps,l,zs,cs,bT,hp,hc,hz,hi=>by
  simp only[parts,cG]at hp
  obtain⟨of,hf,es,sD,hp⟩:=hp
  cases hle:Nat.beq es.length of.2 with
  |false=>simp[hle]at hp
  |true=>
   simp only[hle,cond_true,cG,br]at hp
   obtain⟨l',ke,rfl⟩:=hp
   simp only[xB]at hc
   cases hb:Nat.ble (of.1+es.length) zs.length with
   |false=>simp[hb]at hc
   |true=>
    simp only[hb,cond_true]at hc
    obtain⟨hr,hm⟩:=hw.iy x
    unfold cellsOf at sD
    split at sD
    ·rename_i ag es' dV
     cases sD
     rw[dV]at hr hm
     have kg:=QJ hr
     have hlen:=kg.length
     have qD:=hz.length
     have h1:=dN hle
     have h2:=Nat.le_of_ble_eq_true hb
     simp only[Array.length_toList]at hlen qD
     have kY:of.1+(a.eval x).cells.toList.length<=bT.size:=by simp only[Array.length_toList];omega
     have kZ:(((a.eval x).cells.zipIdx.foldl (λcs (c,j)=>cs.setIfInBounds (of.1+j) c) bT))=xX (a.eval x).cells.toList of.1 bT:=by
      rw[<-Array.foldl_toList,Array.toList_zipIdx]
      exact QI of.1 _ 0 bT
     have sB:=aX.gk of.1 hz kg
     rw[<-jP_ _ _ _ kY]at sB
     obtain⟨kq,g1,g2,g3,g4⟩:=I5 hw D0 ps l' _ cs (xX (a.eval x).cells.toList of.1 bT) ke hc sB λi dl=>by
      rcases QH _ _ _ i dl with h|h
      ·exact hi i h
      ·exact hm i h
     refine⟨kq,?_,g2,g3,by rw[g4,OV]⟩
     simp only[List.map_cons,Instr.fill,D0 f of hf]
     rw[if_neg]
     ·rw[kZ];exact g1
     ·simp only[Array.length_toList]at kY
      simp only[Bool.or_eq_true,decide_eq_true_eq]
      omega
    ·cases sD
theorem QK:∀(l:List Field),(∀f∈l,∃i,P.info? f.type=some i)->
  (l.mapM λf=>(do pure (f.offset,<-sizeOf f.type):Sem (Nat×Nat))).run P w=.ok (l.map λf=>(f.offset,((P.info? f.type).map (·.size)).getD 0)) w
 | [],_=>rfl
 |f::l,h=>by
  obtain⟨i,hi⟩:=h f (by simp)
  have ih:=QK l λg hg=>h g (by simp[hg])
  have h1:(do pure (f.offset,<-sizeOf f.type):Sem (Nat×Nat)).run P w=.ok (f.offset,i.size) w:=by
   simp[sizeOf,typeInfo,hi]
  rw[List.mapM_cons,Sem.run_bind,h1]
  simp only[Result.andThen_ok,Sem.run_bind,ih,Sem.run_pure,List.map_cons,hi,Option.map_some,Option.getD_some]
theorem aeA(dT:eu P cx)(h:Rel M B d up s ρ G a w)(hn:∀n,o.dst=some n->n<a.tmps.size){t:Nat}{ps:Array (Nat×Operand)}(ho:o.op=.build t ps)
  (hk:iI cx cC eW d o oi ⟨s.only R,[],ct,[]⟩=some k'):bJ P M B d up ρ a w s o k'.w Q∧k'.ct.i=ct.i:=by
 have hw:=dh.start h R ct
 simp only[iI,ho,cG]at hk
 obtain⟨ti,fJ,hk⟩:=hk
 cases I6:ti.ag with
 |false=>simp[I6]at hk
 |true=>
 simp only[I6,cond_true,cG,br]at hk
 obtain⟨l,hl,cs,kg,hk⟩:=hk
 have cK:bX d o ⟨s.only R,[],ct,[]⟩ (.v true cs)=k':=hk
 subst cK
 have hT:=dT.ty _ _ fJ
 obtain⟨i,z,hi,hs,_,hz,xP⟩:=hT.info
 obtain⟨u,hu,nB,_⟩:=hT.ag
 obtain⟨D1,sB⟩:=I4 (G:=G) (w:=w) (ρ:=ρ) xP
 obtain⟨fs,rfl⟩:=nB.1 I6
 have hlen:=hT.fl fs hu
 have Ao:∀f∈fs.toList,∃i,P.info? f.type=some i:=by
  intro f hf
  obtain⟨n,hn1⟩:=List.getElem?_of_mem hf
  have be:n<ti.fs.length:=by rw[<-hlen,<-Array.length_toList];exact(List.getElem?_eq_some_iff.1 hn1).1
  obtain⟨jf,zl,i',e1,e2,_,e4,_⟩:=hT.fs n ti.fs[n] (List.getElem?_eq_getElem be)
  rw[hu]at e1
  cases e1
  rw[<-Array.getElem?_toList,hn1]at e2
  cases e2
  exact⟨i',e4⟩
 have D0:∀(f:Nat) (o:Nat×Nat),ti.fs[f]?=some o->((fs.toList.map λf=>(f.offset,((P.info? f.type).map (·.size)).getD 0)).toArray)[f]?=some o:=by
  intro f o hf
  obtain⟨jf,zl,i',e1,e2,e3,e4,_,e6⟩:=hT.fs f o hf
  rw[hu]at e1
  cases e1
  simp only[List.getElem?_toArray,List.getElem?_map,Array.getElem?_toList,e2,Option.map_some,e4,Option.getD_some,e3,e6]
 obtain⟨kq,g1,g2,g3,g4⟩:=I5 (a:=a) hw (place:=λf=>((fs.toList.map λf=>(f.offset,((P.info? f.type).map (·.size)).getD 0)).toArray)[f]?) D0 ps.toList l ti.zero cs z.cells hl kg D1 (λi hi=>by rw[sB]at hi;cases hi)
 refine⟨rD h hw hn (x:=.v true cs) (v:=.agg kq) (CN (x:=Instr.build t (ps.map λ(i,x)=>(i,a.eval x))) (by unfold execOp;rw[ho]) ?_) ⟨kq.toList,by simp,g2⟩ g3 Q,by rw[mM]⟩
 have aeB:(fs.mapM λf=>(do pure (f.offset,<-sizeOf f.type):Sem (Nat×Nat))).run P w=.ok (fs.toList.map λf=>(f.offset,((P.info? f.type).map (·.size)).getD 0)).toArray w:=by
  rw[Array.mapM_eq_mapM_toList,Sem.run_map,QK _ Ao]
  rfl
 have zo:(ps.map λ(x:Nat×Operand)=>(x.1,a.eval x.2)).toList=ps.toList.map λp=>(p.1,a.eval p.2):=by simp
 simp only[Instr.build,Sem.run_bind,zeroValue,typeInfo,run_program,hi,Result.andThen_ok,Sem.run_pure,hz,run_underlying hu,aeB,zo,g1]
end
section
variable {M M':Nat->Prop} {B:eI} {d:Nat} {up:Nat->Nat->Value} {s:St} {ρ:List T} {G:Gh} {a:Act} {w:World} {S:Nat->af} {P:Program}
structure Ap (M':Nat->Prop) (d:Nat) (up:Nat->Nat->Value) (ρ:List T) (G':Gh) (a':Act) (w':World) (W:St):Prop where
 tm:∀e n u,e<=d->W.look (.t e n)=some u->cD G' w' ρ u (oz up d a' e n)
 bx:∀b u,W.look (.x b)=some u->fP G' w' ρ b u
 ob:∀i u,W.look (.o i)=some u->cE G' w' ρ i u
 fQ:∀r u,W.look r=some u->∀i∈de u,M' i
 key:∀i,(W.look (.x i)≠none∨W.look (.o i)≠none)->M' i
 ia:∀b l,G'.ω b=some l->M' l.id∧b<w'.heap.size
structure jk (w w':World):Prop where
 os:w'.os=w.os
 tape:w'.tape=w.tape
 output:w'.output=w.output
theorem Rel.step(h:Rel M B d up s ρ G a w){N:Nat->Prop}{G':Gh}{w':World}{W:St}(k:di (oA W) N G w G' w'){dst:Option Nat}{v:Value}
  (hN:∀i,N i->¬M i)(hM:∀i,M i->M' i)(hd:∀n,dst=some n->W.look (.t d n)≠none)(so:jk w w')(st:Ap M' d up ρ G' (a.put dst v) w' W):
  Rel M' B d up (s.fe W) ρ G' (a.put dst v) w':=by
 refine⟨?_,?_,?_,?_,?_,st.ia,?_,?_,λi b hb=>⟨hM i (h.bt i b hb).1,?_⟩⟩
 ·intro e n he
  rw[St.aS]
  cases hl:W.look (.t e n)with
  |some u=>exact st.tm e n u he hl
  |none=>
   rw[IR λ⟨h1,h2⟩=>hd n h2 (h1▸hl)]
   exact(h.tm e n he).aY k λi hi hn=>hN i hn (h.fQ _ i hi)
 ·intro b
  rw[St.aS]
  cases hl:W.look (.x b)with
  |some u=>exact st.bx b u hl
  |none=>
   by_cases hu:s.get (.x b)=.un
   ·simp only[Option.getD_none,hu];trivial
   ·exact(h.bx b).aY k (λhk=>hk hl) (λhn=>hN b hn (h.key b (.inl hu))) λi hi hn=>hN i hn (h.fQ _ i hi)
 ·intro i
  rw[St.aS]
  cases hl:W.look (.o i)with
  |some u=>exact st.ob i u hl
  |none=>
   by_cases hu:s.get (.o i)=.un
   ·simp only[Option.getD_none,hu];trivial
   ·exact(h.ob i).aY k (λp hk=>hk hl) (λhn=>hN i hn (h.key i (.inr hu))) λj hj hn=>hN j hn (h.fQ _ j hj)
 ·intro r i hi
  rw[St.aS]at hi
  cases hl:W.look r with
  |some u=>rw[hl]at hi;exact st.fQ r u hl i hi
  |none=>rw[hl]at hi;exact hM i (h.fQ r i hi)
 ·intro i hi
  rw[St.aS,St.aS]at hi
  rcases hi with hi|hi
  ·cases hl:W.look (.x i)with
   |some u=>exact st.key i (.inl (by rw[hl];simp))
   |none=>rw[hl]at hi;exact hM i (h.key i (.inl hi))
  ·cases hl:W.look (.o i)with
   |some u=>exact st.key i (.inr (by rw[hl];simp))
   |none=>rw[hl]at hi;exact hM i (h.key i (.inr hi))
 ·have:=h.dn;cases dst<;>exact this
 ·obtain⟨b1,b2,b3,b4,b5,b6,b7⟩:=h.base
  refine⟨so.os.trans b1,so.tape.trans b2,so.output.trans b3,Nat.le_trans b4 k.size,λb hb h0=>?_,λb hb=>?_,b7⟩
  ·obtain⟨h1,h2⟩:=b5 b hb h0
   obtain⟨_,h4⟩:=k.free b (Nat.lt_of_lt_of_le hb b4) (z' h1)
   exact⟨k.frs b (Nat.lt_of_lt_of_le hb b4) h1,h4.trans h2⟩
  ·obtain⟨h1,h2⟩:=b6 b hb
   obtain⟨h3,h4⟩:=k.own b .f h1 (λhf=>hf)
   exact⟨h3,h4.trans h2⟩
 ·obtain⟨h1,h2⟩:=h.bt i b hb
  rw[(k.nm i λhn=>hN i hn h1).1];exact h2
theorem aeC{W W1 W2:St}(hW:∀r,W.look r=(W2.look r).or (W1.look r)):(∀l,oA W1 l->oA W l)∧(∀l,oA W2 l->oA W l):=by
 constructor
 ·intro l hl
  cases l with
  |f=>exact hl
  |x b=>show W.look _≠none;rw[hW];intro e;rw[Option.or_eq_none_iff]at e;exact hl e.2
  |o i p=>show W.look _≠none;rw[hW];intro e;rw[Option.or_eq_none_iff]at e;exact hl e.2
 ·intro l hl
  cases l with
  |f=>exact hl
  |x b=>show W.look _≠none;rw[hW];intro e;rw[Option.or_eq_none_iff]at e;exact hl e.1
  |o i p=>show W.look _≠none;rw[hW];intro e;rw[Option.or_eq_none_iff]at e;exact hl e.1
theorem I7{k:Wk}{G1:Gh}(h:Rel M B d up s ρ G a w)(hk:dh M B d up ρ G a w k G1){dst:Option Nat}{v:Value}{w':World}{G2:Gh}{N:Nat->Prop}{W W2:St}
  (hW:∀r,W.look r=(W2.look r).or (k.w.look r))(aY:di (oA W2) N G1 w G2 w')(hN:∀i,N i->¬M i)(hM:∀i,M i->M' i)
  (hd:∀n,dst=some n->W2.look (.t d n)≠none)(so:jk w w')(st:Ap M' d up ρ G2 (a.put dst v) w' W2):
  Rel M' B d up (s.fe W) ρ G2 (a.put dst v) w':=by
 have hg:∀r,(k.r.fe W).get r=((k.r.fe k.w).fe W2).get r:=by
  intro r
  rw[St.aS,St.aS,St.aS,hW]
  cases W2.look r<;>rfl
 obtain⟨k1,k2⟩:=aeC hW
 refine h.glue (s':=k.r) ((hk.aY.mono k1 λ_ hf=>hf.elim).trans (aY.mono k2 λ_ hn=>hn)) hN hM (λn hn he=>?_) ((hk.rel.step aY hN hM hd so st).congr hg)
 rw[hW,Option.or_eq_none_iff]at he
 exact hd n hn he.1
variable {cx:Cx} {cC eW oi:Nat} {R:List bn} {ct:Ct} {k':Wk} {o:Oper} {Q:Exit->Act->World->Prop}
def Mn(M:Nat->Prop)(lo hi:Nat):Nat->Prop:=λi=>M i∨(lo<=i∧i<hi)
theorem Mn.left{M:Nat->Prop}{lo hi i:Nat}(h:M i):Mn M lo hi i:=.inl h
theorem aeD{k:Wk}{v:SV}(r:bn):(bX d o k v).w.look r=if o.dst.map (bn.t d)=some r then some v else k.w.look r:=by
 unfold bX
 cases o.dst with
 |none=>simp
 |some n=>
  simp only[Option.map_some,br]
  split
  ·rename_i he;subst he;exact St.bg _ _ _
  ·rename_i he;exact St.cz _ _ he
def fi(d:Nat)(o:Oper)(v:SV):St:=match o.dst with|some n=>[(.t d n,v)]|none=>[]
theorem I8{v:SV}(r:bn):(fi d o v).look r=if o.dst.map (bn.t d)=some r then some v else none:=by
 unfold fi
 cases o.dst with
 |none=>simp[St.look]
 |some n=>
  simp only[Option.map_some,br,St.look]
  cases hb:(bn.t d n).beq r with
  |true=>simp[bn.beq_iff.1 hb]
  |false=>
   have:¬(bn.t d n=r):=λe=>by simp[bn.beq_iff.2 e]at hb
   simp[this]
theorem l_(A C:St)(r:bn):(A++C).look r=(A.look r).or (C.look r):=by
 induction A with
 |nil=>simp[St.look]
 |cons x A ih=>
  obtain⟨r',v⟩:=x
  simp only[List.cons_append,St.look]
  cases r'.beq r<;>simp[ih]
theorem uL(r r':bn)(v:SV):St.look [(r,v)] r'=if r=r' then some v else none:=by
 simp only[St.look]
 cases hb:r.beq r' with
 |true=>simp[bn.beq_iff.1 hb]
 |false=>
  have:¬(r=r'):=λe=>by simp[bn.beq_iff.2 e]at hb
  simp[this]
theorem xY{k k0:Wk}{v:SV}{W2:St}(hk:∀r,k.w.look r=(W2.look r).or (k0.w.look r))(r:bn):(bX d o k v).w.look r=((fi d o v++W2).look r).or (k0.w.look r):=by
 rw[aeD,l_,I8,hk]
 split<;>simp
theorem uM{k:Wk}{r:bn}{v:SV}(r':bn):(k.w.set r v).look r'=(St.look [(r,v)] r').or (k.w.look r'):=by
 rw[uL]
 by_cases h:r=r'
 ·subst h;rw[St.bg];simp
 ·rw[St.cz _ _ h];simp[h]
theorem k_{x u:SV}{W:St}{r:bn}(h:(fi d o x++W).look r=some u):(∃n,o.dst=some n∧r=.t d n∧u=x)∨W.look r=some u:=by
 rw[l_,I8]at h
 split at h
 ·rename_i he
  cases hd:o.dst with
  |none=>simp[hd]at he
  |some n=>
   simp[hd]at he
   simp at h
   exact .inl ⟨n,rfl,he.symm,h.symm⟩
 ·simp at h
  exact .inr h
theorem jI{r r':bn}{v u:SV}{W:St}(h:St.look ((r,v)::W) r'=some u):(r'=r∧u=v)∨W.look r'=some u:=by
 simp only[St.look]at h
 cases hb:r.beq r' with
 |true=>simp[hb]at h;exact .inl ⟨(bn.beq_iff.1 hb).symm,h.symm⟩
 |false=>simp[hb]at h;exact .inr h
theorem I9{x:SV}{W:St}{n:Nat}(h:o.dst=some n):(fi d o x++W).look (.t d n)≠none:=by
 rw[l_,I8,h];simp
def Gh.box(G:Gh)(b i:Nat):Gh:=
 {G with ω:=λc=>if c=b then some (.x i)else G.ω c,β:=λj=>if j=i then b else G.β j}
theorem aeE{s:St}(h:Rel M B d up s ρ G a w){b:Nat}(hb:w.heap.size<=b):G.ω b=none:=by
 cases ho:G.ω b with
 |none=>rfl
 |some l=>have:=(h.ia b l ho).2;omega
theorem D2(w:World)(o:Obj):jk w (w.alloc o):=⟨rfl,rfl,rfl⟩
theorem QL{k:Wk}{G1:Gh}(h:Rel M B d up s ρ G a w)(hk:dh M B d up ρ G a w k G1)(hn:∀n,o.dst=some n->n<a.tmps.size)(hM:¬M k.ct.i)
  {bT:Array Value}{t:TypeId}{ag:Bool}{cs:List Ce}(kg:aX G1 w ρ cs bT.toList)(D3:∀i∈dF cs,M i)
  (hx:(execOp a.eval o).run P w=.ok (.value (.pointer (some ⟨w.heap.size,0,none⟩))) (w.alloc (.cells bT t))):
  bJ P (Mn M k.ct.i (k.ct.i+1)) B d up ρ a w s o (bX d o {(k.set (.x k.ct.i) (.v ag cs))with ct:=⟨k.ct.a,k.ct.i+1⟩} (.pt k.ct.i 0)).w Q:=by
 have hf:=aeE hk.rel (Nat.le_refl w.heap.size)
 have hK:di (oA (fi d o (.pt k.ct.i 0)++[(.x k.ct.i,.v ag cs)])) (λi=>i=k.ct.i) G1 w (G1.box w.heap.size k.ct.i) (w.alloc (.cells bT t)):=by
  refine⟨by simp,λb hb h0=>?_,λb hb h0=>?_,λb l hb _=>?_,λi hi=>?_⟩
  ·have:b≠w.heap.size:=by omega
   exact⟨(Gh.vw (by simp[Gh.box,this])).trans h0,heap_alloc_old w _ b hb⟩
  ·have:b≠w.heap.size:=by omega
   simp[Gh.box,this,h0]
  ·have be:=(hk.rel.ia b l hb).2
   have:b≠w.heap.size:=by omega
   exact⟨by simp[Gh.box,this,hb],heap_alloc_old w _ b be⟩
  ·exact⟨by simp[Gh.box,hi],λ_ _=>rfl⟩
 have dk:∀i∈dF cs,¬(i=k.ct.i):=λi hi e=>hM (e▸D3 i hi)
 simp only[bJ,Oper.wp,hx,Oper.upon]
 refine⟨G1.box w.heap.size k.ct.i,I7 h hk (W2:=fi d o (.pt k.ct.i 0)++[(.x k.ct.i,.v ag cs)]) (xY (W2:=[(.x k.ct.i,.v ag cs)]) (k:={(k.set (.x k.ct.i) (.v ag cs))with ct:=⟨k.ct.a,k.ct.i+1⟩}) λr=>by exact uM (k:=k) (r:=.x k.ct.i) (v:=.v ag cs) r)
  hK (λi hi=>by subst hi;exact hM) (λi hi=>.inl hi) (λn oG=>I9 oG) (D2 _ _) ?_,Af _ _ _⟩
 have gJ:Mn M k.ct.i (k.ct.i+1) k.ct.i:=.inr ⟨Nat.le_refl _,Nat.lt_succ_self _⟩
 refine⟨λe n u he hl=>?_,λb u hl=>?_,λi u hl=>?_,λr u hl i hi=>?_,λi hi=>?_,λb l hb=>?_⟩
 ·rcases k_ hl with⟨n',iA,e1,rfl⟩|hl
  ·cases e1
   rw[iA,Qn (hn _ iA)]
   simp[cD,Gh.box]
  ·rcases jI hl with⟨e1,_⟩|hl
   ·cases e1
   ·cases hl
 ·rcases k_ hl with⟨n',iA,e1,rfl⟩|hl
  ·cases e1
  ·rcases jI hl with⟨e1,rfl⟩|hl
   ·cases e1
    refine⟨by simp[Gh.box],bT,t,?_,kg.aY hK dk⟩
    simpa only[Gh.box,if_pos]using heap_alloc_new w (.cells bT t)
   ·cases hl
 ·rcases k_ hl with⟨n',iA,e1,rfl⟩|hl
  ·cases e1
  ·rcases jI hl with⟨e1,rfl⟩|hl
   ·cases e1
   ·cases hl
 ·rcases k_ hl with⟨n',iA,e1,rfl⟩|hl
  ·simp[de]at hi;subst hi;exact gJ
  ·rcases jI hl with⟨e1,rfl⟩|hl
   ·exact .inl (D3 i hi)
   ·cases hl
 ·have:∀r:bn,(r=.x i∨r=.o i)->St.look (fi d o (.pt k.ct.i 0)++[(bn.x k.ct.i,SV.v ag cs)]) r≠none->i=k.ct.i:=by
   intro r hr hl
   obtain⟨u,hu⟩:=Option.ne_none_iff_exists'.1 hl
   rcases k_ hu with⟨n',iA,e1,rfl⟩|hl
   ·rcases hr with rfl|rfl<;>cases e1
   ·rcases jI hl with⟨e1,rfl⟩|hl
    ·rcases hr with rfl|rfl
     ·cases e1;rfl
     ·cases e1
    ·cases hl
  rcases hi with hi|hi
  ·rw[this _ (.inl rfl) hi];exact gJ
  ·rw[this _ (.inr rfl) hi];exact gJ
 ·simp only[Gh.box]at hb
  split at hb
  ·rename_i he
   cases hb
   exact⟨gJ,by simp[he]⟩
  ·obtain⟨h1,h2⟩:=hk.rel.ia b l hb
   exact⟨.inl h1,by simp;omega⟩
theorem aeF(dT:eu P cx)(h:Rel M B d up s ρ G a w)(hn:∀n,o.dst=some n->n<a.tmps.size){t:Nat}(ho:o.op=.alloc t)
  (hk:iI cx cC eW d o oi ⟨s.only R,[],ct,[]⟩=some k')(hM:∀i,ct.i<=i->i<k'.ct.i->¬M i):bJ P (Mn M ct.i k'.ct.i) B d up ρ a w s o k'.w Q:=by
 have hw:=dh.start h R ct
 simp only[iI,ho,cG,br]at hk
 obtain⟨ti,fJ,hk⟩:=hk
 have cK:bX d o {(Wk.set ⟨s.only R,[],ct,[]⟩ (.x ct.i) (.v ti.ag ti.zero))with ct:=⟨ct.a,ct.i+1⟩} (.pt ct.i 0)=k':=hk
 have o8:k'.ct.i=ct.i+1:=by rw[<-cK,mM]
 have hT:=dT.ty _ _ fJ
 obtain⟨i,z,hi,hs,_,hz,xP⟩:=hT.info
 obtain⟨D1,sB⟩:=I4 (G:=G) (w:=w) (ρ:=ρ) xP
 rw[o8,<-cK]
 refine QL (bT:=z.cells) (t:=t) h hw hn (hM _ (Nat.le_refl _) (by simp only[o8];omega)) D1 (λi hi=>by rw[sB]at hi;cases hi) ?_
 unfold execOp
 rw[ho]
 simp[Instr.alloc,zeroValue,typeInfo,hi,hz,newVar,newRow]
theorem aeG(dT:eu P cx)(h:Rel M B d up s ρ G a w)(hn:∀n,o.dst=some n->n<a.tmps.size){t:Nat}{x:Operand}(ho:o.op=.box t x)
  (hk:iI cx cC eW d o oi ⟨s.only R,[],ct,[]⟩=some k')(hM:∀i,ct.i<=i->i<k'.ct.i->¬M i):bJ P (Mn M ct.i k'.ct.i) B d up ρ a w s o k'.w Q:=by
 have hw:=dh.start h R ct
 simp only[iI,ho,cG]at hk
 obtain⟨ti,fJ,cs,kg,hk⟩:=hk
 cases hl:Nat.beq cs.length ti.sz with
 |false=>simp[hl]at hk
 |true=>
  simp only[hl,cond_true,br]at hk
  have cK:bX d o {(Wk.set ⟨s.only R,[],ct,[]⟩ (.x ct.i) (.v ti.ag cs))with ct:=⟨ct.a,ct.i+1⟩} (.pt ct.i 0)=k':=hk
  have o8:k'.ct.i=ct.i+1:=by rw[<-cK,mM]
  obtain⟨hr,hm⟩:=hw.iy x
  unfold cellsOf at kg
  split at kg
  ·rename_i ag es dV
   cases kg
   rw[dV]at hr hm
   rw[o8,<-cK]
   refine QL (bT:=(a.eval x).cells) (t:=t) h hw hn (hM _ (Nat.le_refl _) (by simp only[o8];omega)) (QJ hr) hm ?_
   unfold execOp
   rw[ho]
   simp[Instr.box,newVar,newRow]
  ·cases kg
theorem QM{k:Wk}{G1:Gh}(hk:dh M B d up ρ G a w k G1):∀(xs:List Operand) (bs:List Nat),
  (xs.mapM λx=>match ch d k.get x with| .pt b 0=>some b|_=>none)=some bs->xs.map a.eval=bs.map (λb=>Value.pointer (some ⟨G1.β b,0,none⟩))∧∀b∈bs,M b
 | [],bs,h=>by simp at h;subst h;exact⟨rfl,λ_ h=>by cases h⟩
 |x::xs,bs,h=>by
  simp only[List.mapM_cons,Option.pure_def,Option.bind_eq_bind,cG,br]at h
  obtain⟨b,hb,xZ,QN,rfl⟩:=h
  obtain⟨h1,h2⟩:=QM hk xs xZ QN
  obtain⟨hr,hm⟩:=hk.iy x
  split at hb
  ·rename_i b' dV
   cases hb
   rw[dV]at hr hm
   refine⟨by simp only[List.map_cons,h1];rw[show a.eval x=_ from hr],λc hc=>?_⟩
   rcases List.mem_cons.1 hc with rfl|hc
   ·exact hm _ (by simp[de])
   ·exact h2 c hc
  ·cases hb
theorem aeH(h:Rel M B d up s ρ G a w)(hn:∀n,o.dst=some n->n<a.tmps.size){fn:Fn}{first xC:Array Operand}(ho:o.op=.makeFunc fn first xC)
  (hk:iI cx cC eW d o oi ⟨s.only R,[],ct,[]⟩=some k'):bJ P M B d up ρ a w s o k'.w Q∧k'.ct.i=ct.i:=by
 have hw:=dh.start h R ct
 cases fn with
 |func f=>
  simp only[iI,ho]at hk
  cases he:first.isEmpty with
  |false=>simp[he]at hk
  |true=>
   simp only[he,cond_true,cG,br]at hk
   obtain⟨bs,QN,hk⟩:=hk
   have cK:bX d o ⟨s.only R,[],ct,[]⟩ (.cl f bs)=k':=hk
   subst cK
   obtain⟨h1,h2⟩:=QM hw _ bs QN
   have I_:first=#[]:=by simpa using he
   refine⟨rD h hw hn (x:=.cl f bs) (v:=.func (.func f) #[] (xC.map a.eval)) (CN (x:=Instr.makeFunc (.func f) (first.map a.eval) (xC.map a.eval)) (by unfold execOp;rw[ho]) ?_) ?_ h2 Q,by rw[mM]⟩
   ·rw[I_];simp[Instr.makeFunc]
   ·show _=_
    congr 1
    apply Array.ext'
    simpa using h1
 |_=>simp[iI,ho]at hk
end
end Go.Proofs.YtjimmglpkndemaaGreatC

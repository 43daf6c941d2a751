/- The walk by reflection: a part of its laws, for any function. Conditions: none. -/
import Derived.Calls
import Derived.Orders
import Derived.Below
import Derived.KernelRfl
import Derived.Laws.OwnMore
import Derived.Laws.Cells
import Derived.Laws.IdiomCopy
import Derived.Lib.ItoaNum
import Derived.Laws.Small
import Derived.Laws.Entries
import Derived.Laws.StructEq
import Derived.Laws.BytesString
namespace Go.Proofs.YtbhplkilhknciaaDoorC
set_option linter.unusedVariables false
inductive T where
 | c (v:Value)
 | l (xs:List (List T))
 deriving Inhabited
inductive Lf where
 | k (v:Value)
 | a (n:Nat)
 | e
inductive Res where
 | t (d n:Nat)
 | x (n:Nat)
 | o (n:Nat)
abbrev Pth:=List (Lf × Nat × Nat)
inductive Ce where
 | p (x:Lf)
 | o (id:Nat) (q:Pth)
 | n
 | d
inductive Pv where
 | z
 | w (tk:Nat) (x lo:Lf)
inductive SV where
 | un
 | v (ag:Bool) (cs:List Ce)
 | pt (bx off:Nat)
 | ep (id:Nat) (q:Pth) (ix:Lf) (wd off:Nat)
 | fp (s ix:Lf) (wd off:Nat)
 | tp (vs:List (Bool × List Ce))
 | cl (f:Nat) (bs:List Nat)
 | ob (dp:Bool) (x:Lf)
 | fz (pv:Pv) (x:Lf)
 | tk (x m:Lf)
 | fl (x:Lf)
 | fr (x:Lf)
def Res.beq:Res→Res→Bool
 | .t d n,.t e m=>Nat.beq n m && Nat.beq d e
 | .x n,.x m=>Nat.beq n m
 | .o n,.o m=>Nat.beq n m
 | _,_=>false
theorem Res.beq_iff {r s:Res}:r.beq s=true↔r=s:=by
 cases r <;> cases s <;> simp [Res.beq,and_comm]
instance:DecidableEq Res:=fun r s=>if h:r.beq s=true then isTrue (Res.beq_iff.1 h) else isFalse fun e=>h (Res.beq_iff.2 e)
abbrev St:=List (Res × SV)
def St.get (s:St) (r:Res):SV :=
 match s with
 | []=>.un
 | (r',v) :: s=>bif r'.beq r then v else St.get s r
def St.set (s:St) (r:Res) (v:SV):St :=
 match s with
 | []=>[(r,v)]
 | (r',v') :: s=>bif r'.beq r then (r,v) :: s else (r',v') :: St.set s r v
theorem St.get_set_self (s:St) (r:Res) (v:SV):(s.set r v).get r=v:=by
 induction s with
 | nil=>simp [St.set,St.get,(Res.beq_iff).2 rfl]
 | cons x s ih =>
  obtain ⟨r',v'⟩:=x
  cases h:r'.beq r with
  | true=>simp [St.set,St.get,h,(Res.beq_iff).2 rfl]
  | false=>simp [St.set,St.get,h,ih]
theorem St.get_set_ne (s:St) {r r':Res} (v:SV) (h:r≠r'):(s.set r v).get r'=s.get r':=by
 have hb:r.beq r'=false:=by
  cases hh:r.beq r' with
  | false=>rfl
  | true=>exact absurd (Res.beq_iff.1 hh) h
 induction s with
 | nil=>simp [St.set,St.get,hb]
 | cons x s ih =>
  obtain ⟨r2,v2⟩:=x
  cases h2:r2.beq r with
  | true =>
   have:=Res.beq_iff.1 h2
   subst this
   simp [St.set,St.get,h2,hb]
  | false =>
   cases h3:r2.beq r' with
   | true=>simp [St.set,St.get,h2,h3]
   | false=>simp [St.set,St.get,h2,h3,ih]
inductive Prim where
 | bin (op:BinOp)
 | bb (op:BinOp)
 | un (op:UnOp)
 | len
 | lens
 | bnd
 | cell (w j:Nat)
 | scell (w j:Nat)
 | idx
 | sub (w:Nat) (lo hi:Bool)
 | subs (lo hi:Bool)
 | lit (w:Nat) (ms:List Bool)
 | app (sc:Bool) (w:Nat)
 | mk
 | put (sc:Bool) (w off n:Nat)
 | putD (ms:List Bool) (w off:Nat)
 | dig (w j:Nat)
 | bury (w j:Nat)
 | eqs (ks:List Nat)
 | mx
 | mn
 | cnv (k:IntKind)
 | scl
 | str
 | byt
 | tk1
 | tkn
inductive Ins where
 | pr (p:Prim) (xs:List Lf)
 | cl (g:Nat) (xs:List Lf) (m:Nat)
inductive PL where
 | ret (xs:List Lf)
 | ins (i:Ins) (k:PL)
 | ite (c:Nat) (x y:PL)
 | loop (xs:List Lf) (body:PL)
 | join (k:PL) (body:PL)
 | go (j:Nat) (xs:List Lf)
 | dbg (tag:Nat) (s:List St)
def T.dft:T:=.l []
def Lf.ev (ρ:List T):Lf→T
 | .k v=>.c v
 | .a n=>ρ.getD n T.dft
 | .e=>.l []
def cap32:Nat:=4294967296
def binV (op:BinOp):Value→Value→Option Value
 | .int k a,.int k' b =>
  match op with
  | .shl=>if b < 0 then none else some (.int k (k.wrap (a * 2 ^ (min b.toNat k.bits))))
  | .shr=>if b < 0 then none else some (.int k (a.fdiv (2 ^ (min b.toNat k.bits))))
  | op =>
  if k=k' then
   match op with
   | .and=>some (.int k (k.wrap ((BitVec.ofInt k.bits a &&& BitVec.ofInt k.bits b).toNat:Nat)))
   | .or=>some (.int k (k.wrap ((BitVec.ofInt k.bits a ||| BitVec.ofInt k.bits b).toNat:Nat)))
   | .xor=>some (.int k (k.wrap ((BitVec.ofInt k.bits a ^^^ BitVec.ofInt k.bits b).toNat:Nat)))
   | .andNot=>some (.int k (k.wrap ((BitVec.ofInt k.bits a &&& ~~~BitVec.ofInt k.bits b).toNat:Nat)))
   | .add=>some (.int k (k.wrap (a+b)))
   | .sub=>some (.int k (k.wrap (a - b)))
   | .mul=>some (.int k (k.wrap (a * b)))
   | .quo=>if b=0 then none else some (.int k (k.wrap (a.tdiv b)))
   | .rem=>if b=0 then none else some (.int k (a.tmod b))
   | .eql=>some (.bool (a == b))
   | .neq=>some (.bool (a != b))
   | .lss=>some (.bool (decide (a < b)))
   | .leq=>some (.bool (decide (a≤b)))
   | .gtr=>some (.bool (decide (a > b)))
   | .geq=>some (.bool (decide (a ≥ b)))
   | _=>none
  else none
 | .string a,.string b =>
  match op with
  | .add=>if a.size+b.size < cap32 then some (.string (a++b)) else none
  | .eql=>some (.bool (a.toList == b.toList))
  | .neq=>some (.bool !(a.toList == b.toList))
  | _=>none
 | _,_=>none
def boolV (op:BinOp):Value→Value→Option Value
 | .bool a,.bool b =>
  match op with
  | .eql=>some (.bool (a == b))
  | .neq=>some (.bool !(a == b))
  | _=>none
 | _,_=>none
def unV (op:UnOp):Value→Option Value
 | .bool a=>match op with | .not=>some (.bool !a) | _=>none
 | .int k a=>match op with | .neg=>some (.int k (k.wrap (0 - a))) | _=>none
 | _=>none
def T.val:T→Option Value
 | .c v=>some v
 | .l _=>none
def T.int:T→Option Int
 | .c (.int _ n)=>some n
 | _=>none
def T.rows:T→Option (List (List T))
 | .l xs=>some xs
 | _=>none
def rowAt (s i:T):Option (List T) :=
 s.rows.bind fun xs=>i.int.bind fun n=>if 0≤n then xs[n.toNat]? else none
def chunks (w:Nat):Nat→List T→List (List T)
 | 0,_=>[]
 | n+1,ts=>ts.take w :: chunks w n (ts.drop w)
def scal:T→Bool
 | .c (.int ..) | .c (.bool _) | .c (.string _)=>true
 | _=>false
def eqV:Nat→Value→Value→Option Bool
 | 1,.int k a,.int k' b=>if k=k' then some (a == b) else none
 | 4,.bool a,.bool b=>some (a == b)
 | 2,.string a,.string b=>some (a == b)
 | _,_,_=>none
def eqT:List Nat→List T→List T→Option Bool
 | [],[],[]=>some true
 | k :: ks,.c x :: xs,.c y :: ys=>(eqV k x y).bind fun b=>(eqT ks xs ys).bind fun c=>some (b && c)
 | _,_,_=>none
def setRow (xs:List (List T)) (i off:Nat) (vs:List T):List (List T) :=
 xs.modify i fun r=>r.take off++vs++r.drop (off+vs.length)
def masked:List Bool→List T→Bool
 | true :: ms,t :: ts=>scal t && masked ms ts
 | false :: ms,_ :: ts=>masked ms ts
 | true :: _,[]=>false
 | _,_=>true
def okW (w:Nat):List (List T)→Bool
 | []=>true
 | r :: _=>Nat.beq r.length w
def freeN (us:List (List T)) (n k:Nat):Bool:=((us.drop n).take k).all fun r=>!r.isEmpty
def goneN (us:List (List T)) (n k:Nat):List (List T):=us.take n++List.replicate k []++us.drop (n+k)
def byteOf:List T→Option Int
 | [.c (.int .u8 n)]=>some n
 | _=>none
def bytesOf:List (List T)→Option (List Int)
 | []=>some []
 | r :: rs=>(byteOf r).bind fun n=>(bytesOf rs).bind fun ns=>some (n :: ns)
def strOf (ns:List Int):ByteArray:=⟨(ns.map fun n=>UInt8.ofNat n.toNat).toArray⟩
def Prim.ev:Prim→List T→Option T
 | .bin op,[x,y]=>x.val.bind fun a=>y.val.bind fun b=>(binV op a b).bind fun r=>some (.c r)
 | .bb op,[x,y]=>x.val.bind fun a=>y.val.bind fun b=>(boolV op a b).bind fun r=>some (.c r)
 | .un op,[x]=>x.val.bind fun a=>(unV op a).bind fun r=>some (.c r)
 | .len,[.l xs]=>some (.c (.int .i64 xs.length))
 | .lens,[.c (.string s)]=>some (.c (.int .i64 s.size))
 | .bnd,[s,i]=>(rowAt s i).bind fun _=>some (.c (.bool true))
 | .cell w j,[s,i]=>(rowAt s i).bind fun r=>if r.length=w then r[j]? else none
 | .scell w j,[s,i]=>(rowAt s i).bind fun r=>if r.length=w then (r[j]?).bind fun t=>if scal t=true then some t else none else none
 | .idx,[.c (.string s),.c (.int _ n)]=>if 0≤n then (if h:n.toNat < s.size then some (.c (.int .u8 (s.get n.toNat h).toNat)) else none) else none
 | .sub w lo hi,.l xs :: ts=>if okW w xs=true then
  (match lo,hi,ts with
   | false,false,[]=>some (0,(xs.length:Int))
   | true,false,[.c (.int _ l)]=>some (l,(xs.length:Int))
   | false,true,[.c (.int _ h)]=>some (0,h)
   | true,true,[.c (.int _ l),.c (.int _ h)]=>some (l,h)
   | _,_,_=>none).bind fun (l,h) =>
   if 0≤l then (if l≤h then (if h≤xs.length then some (.l ((xs.take h.toNat).drop l.toNat)) else none) else none) else none
  else none
 | .subs lo hi,.c (.string s) :: ts =>
  (match lo,hi,ts with
   | false,false,[]=>some (0,(s.size:Int))
   | true,false,[.c (.int _ l)]=>some (l,(s.size:Int))
   | false,true,[.c (.int _ h)]=>some (0,h)
   | true,true,[.c (.int _ l),.c (.int _ h)]=>some (l,h)
   | _,_,_=>none).bind fun (l,h) =>
   if 0≤l then (if l≤h then (if h≤s.size then some (.c (.string (s.extract l.toNat h.toNat))) else none) else none) else none
 | .lit w ms,ts=>if 0 < w then (if masked ms ts=true then some (.l (chunks w (ts.length / w) ts)) else none) else none
 | .app sc w,[.l xs,.l ys]=>if xs.length+ys.length < cap32 then (if (!sc || ys.all (·.all scal))=true then (if okW w xs=true then (if okW w ys=true then some (.l (xs++ys)) else none) else none) else none) else none
 | .mk,.c (.int _ n) :: .c (.int _ c) :: ts=>if 0≤n then (if n=c then (if c < cap32 then some (.l (List.replicate n.toNat ts)) else none) else none) else none
 | .put sc w off n,s :: i :: vs=>(rowAt s i).bind fun r=>if r.length=w then (if off+n≤w then (if vs.length=n then (if (!sc || vs.all scal)=true then
   s.rows.bind fun xs=>i.int.bind fun k=>some (.l (setRow xs k.toNat off vs)) else none) else none) else none) else none
 | .putD ms w off,s :: i :: vs=>(rowAt s i).bind fun r=>if r.length=w then (if off+vs.length≤w then (if masked ms vs=true then
   s.rows.bind fun xs=>i.int.bind fun k=>some (.l (setRow xs k.toNat off vs)) else none) else none) else none
 | .dig w j,[s,i]=>(rowAt s i).bind fun r=>if r.length=w then (r[j]?).bind fun t=>t.rows.bind fun xs=>some (.l xs) else none
 | .bury w j,[s,i,v]=>(rowAt s i).bind fun r=>if r.length=w then (if j < w then
   s.rows.bind fun xs=>i.int.bind fun k=>some (.l (setRow xs k.toNat j [v])) else none) else none
 | .eqs ks,ts=>(eqT ks (ts.take ks.length) (ts.drop ks.length)).bind fun b=>some (.c (.bool b))
 | .mx,[.c (.int k a),.c (.int _ b)]=>some (.c (.int k (if b > a then b else a)))
 | .mn,[.c (.int k a),.c (.int _ b)]=>some (.c (.int k (if b < a then b else a)))
 | .scl,[t]=>if scal t=true then some t else none
 | .tk1,[.l us,.c (.int _ n)]=>if 0≤n then (if n.toNat+1≤us.length then (if freeN us n.toNat 1=true then some (.l (goneN us n.toNat 1)) else none) else none) else none
 | .tkn,[.l us,.c (.int _ n),.l ys]=>if 0≤n then (if n.toNat+ys.length≤us.length then (if freeN us n.toNat ys.length=true then some (.l (goneN us n.toNat ys.length)) else none) else none) else none
 | .cnv k,[.c (.int _ n)]=>some (.c (.int k (k.wrap n)))
 | .str,[.l xs]=>(bytesOf xs).bind fun ns=>some (.c (.string (strOf ns)))
 | _,_=>none
def pickN (ts:List T):Nat→Nat→List T
 | _,0=>[]
 | i,m+1=>ts.getD i T.dft :: pickN ts (i+1) m
abbrev Sem1:=List T→Option (List T)
def Ins.ev (S:Nat→Sem1) (ρ:List T):Ins→Option (List T)
 | .pr p xs=>(p.ev (xs.map (Lf.ev ρ))).bind fun t=>some [t]
 | .cl g xs m=>(S g (xs.map (Lf.ev ρ))).bind fun ts=>some (pickN ts 0 m)
def iter {α β:Type} (F:(α→Option β)→α→Option β):Nat→α→Option β
 | 0,_=>none
 | n+1,x=>F (iter F n) x
def rounds:Nat:=1099511627776
def PL.den (S:Nat→Sem1) (R:Nat) (K:List Sem1) (ρ:List T):PL→Option (List T)
 | .ret xs=>some (xs.map (Lf.ev ρ))
 | .ins (.pr p xs) k=>(p.ev (xs.map (Lf.ev ρ))).bind fun t=>k.den S R K (ρ++[t])
 | .ins (.cl g xs m) k=>(S g (xs.map (Lf.ev ρ))).bind fun ts=>k.den S R K (ρ++pickN ts 0 m)
 | .ite c x y=>match ρ.getD c T.dft with
  | .c (.bool b)=>bif b then x.den S R K ρ else y.den S R K ρ
  | _=>none
 | .loop xs body=>iter (fun self ts=>body.den S R (self :: K) (ρ++ts)) R (xs.map (Lf.ev ρ))
 | .join k body=>body.den S R ((fun ts=>k.den S R K (ρ++ts)) :: K) ρ
 | .go j xs=>match K[j]? with
  | some f=>f (xs.map (Lf.ev ρ))
  | none=>none
 | .dbg _ _=>none
structure TI where
 sz:Nat
 bytes:Nat
 ag:Bool
 zero:List Ce
 el:Nat
 fs:List (Nat × Nat)
 kd:Nat
inductive Ck where
 | s
 | p
 | o (dp:Bool)
inductive PS where
 | v (ag:Bool) (n:Nat)
 | x (n:Nat)
structure Sig where
 ps:List PS
 rs:List (Bool × List Ck)
structure Ct where
 a:Nat
 i:Nat
abbrev Facts:=List (Nat × Bool)
def fact (fs:Facts) (n:Nat):Option Bool :=
 match fs with
 | []=>none
 | (m,b) :: fs=>bif Nat.beq m n then some b else fact fs n
inductive Cj where
 | k
 | p
 | o (dp:Bool)
 | d
inductive Rj where
 | drop
 | phi (ag:Bool) (cs:List Cj)
 | rows (js:List (Nat × Bool))
abbrev Js:=List (Nat × Bool × Rj)
structure Cx where
 ty:Nat→Option TI
 sg:Nat→Option Sig
 fn:Nat→Option Func
 hint:Nat→Nat→Nat→Option Js
 fz:Nat→Nat→Nat→Bool
 nest:Nat→Bool
def scV:Value→Bool
 | .int .. | .bool _ | .string _=>true
 | _=>false
def constSV:Value→SV
 | .slice none 0 0=>.v false [.n]
 | v=>bif scV v then .v false [.p (.k v)] else .un
def opnd (d:Nat) (s:Res→SV):Operand→SV
 | .tmp t=>s (.t d t)
 | .const v=>constSV v
 | .func f=>.cl f []
 | .global _=>.un
def cellsOf:SV→Option (List Ce)
 | .v _ cs=>some cs
 | _=>none
def Lf.beq:Lf→Lf→Bool
 | .a n,.a m=>Nat.beq n m
 | .e,.e=>true
 | .k (.int k1 n),.k (.int k2 m)=>decide (k1=k2) && decide (n=m)
 | .k (.bool b1),.k (.bool b2)=>b1 == b2
 | .k (.string s1),.k (.string s2)=>s1.data.toList == s2.data.toList
 | _,_=>false
structure Wk where
 r:St
 w:St
 ct:Ct
 is:List Ins
def St.look (s:St) (r:Res):Option SV :=
 match s with
 | []=>none
 | (r',v) :: s=>bif r'.beq r then some v else St.look s r
def Wk.get (k:Wk) (r:Res):SV :=
 match k.w.look r with
 | some v=>v
 | none=>k.r.get r
def Wk.em (k:Wk) (p:Prim) (xs:List Lf):Wk × Lf:=({ k with ct:=⟨k.ct.a+1,k.ct.i⟩,is:=.pr p xs :: k.is },.a k.ct.a)
def Wk.set (k:Wk) (r:Res) (v:SV):Wk:={ k with w:=k.w.set r v }
def Wk.down (k:Wk) (x:Lf):Pth→Wk × Lf
 | []=>(k,x)
 | (ix,w,j) :: q =>
  let (k,y):=k.em (.dig w j) [x,ix]
  Wk.down k y q
def Wk.up (k:Wk) (x y:Lf):Pth→Wk × Lf
 | []=>(k,y)
 | (ix,w,j) :: q =>
  let (k,z):=k.em (.dig w j) [x,ix]
  let (k,z):=Wk.up k z y q
  k.em (.bury w j) [x,ix,z]
def Wk.val (k:Wk):Ce→Option (Wk × Lf)
 | .p x=>some (k,x)
 | .n=>some (k,.e)
 | .o id q =>
  match k.get (.o id) with
  | .ob true x=>some (k.down x q)
  | .ob false x | .fz _ x | .fl x=>match q with
   | []=>some (k,x)
   | _=>none
  | _=>none
 | .d=>none
def Wk.vals (k:Wk):List Ce→Option (Wk × List Lf)
 | []=>some (k,[])
 | c :: cs=>(k.val c).bind fun (k,x)=>(Wk.vals k cs).bind fun (k,xs)=>some (k,x :: xs)
def Wk.one (k:Wk):SV→Option (Wk × Lf)
 | .v false [c]=>k.val c
 | _=>none
def Wk.thaw (k:Wk) (id:Nat):Option Wk :=
 match k.get (.o id) with
 | .ob _ x=>some (k.set (.o id) (.fz .z x))
 | .fz _ _=>some k
 | _=>none
def Wk.flat (k:Wk) (id:Nat):Option Wk :=
 match k.get (.o id) with
 | .ob _ x=>some (k.set (.o id) (.ob false x))
 | .fz _ _=>some k
 | _=>none
def Wk.thaws (k:Wk):List Ce→Option Wk
 | []=>some k
 | .o id _ :: cs=>(k.thaw id).bind fun k=>Wk.thaws k cs
 | _ :: cs=>Wk.thaws k cs
def isN:Ce→Bool
 | .n=>true
 | _=>false
def Wk.absorb (k:Wk) (fz:Bool):List Ce→List Ce→Option (Wk × List Lf × Bool)
 | [],[]=>some (k,[],true)
 | z :: zs,.p x :: cs=>(Wk.absorb k fz zs cs).bind fun (k,xs,dp)=>some (k,x :: xs,dp && !isN z)
 | z :: zs,.n :: cs=>(Wk.absorb k fz zs cs).bind fun (k,xs,dp)=>some (k,.e :: xs,dp)
 | z :: zs,.o id [] :: cs =>
  match k.get (.o id) with
  | .fz _ x=>(Wk.absorb k fz zs cs).bind fun (k,xs,dp)=>some (k,x :: xs,false)
  | .ob d x =>
   bif fz then (Wk.absorb (k.set (.o id) (.fz .z x)) fz zs cs).bind fun (k,xs,dp)=>some (k,x :: xs,false)
   else bif d then (Wk.absorb (k.set (.o id) .un) fz zs cs).bind fun (k,xs,dp)=>some (k,x :: xs,dp)
   else (Wk.absorb (k.set (.o id) (.fz .z x)) fz zs cs).bind fun (k,xs,dp)=>some (k,x :: xs,false)
  | _=>none
 | _,_=>none
def Wk.absorbD (k:Wk):List Ce→List Ce→Option (Wk × List Lf)
 | [],[]=>some (k,[])
 | z :: zs,.p x :: cs=>bif isN z then none else (Wk.absorbD k zs cs).bind fun (k,xs)=>some (k,x :: xs)
 | z :: zs,.n :: cs=>(Wk.absorbD k zs cs).bind fun (k,xs)=>some (k,.e :: xs)
 | z :: zs,.o id [] :: cs =>
  match k.get (.o id) with
  | .ob true x | .fl x=>(Wk.absorbD (k.set (.o id) .un) zs cs).bind fun (k,xs)=>some (k,x :: xs)
  | _=>none
 | _,_=>none
def Wk.absorb2 (k:Wk) (fz:Bool) (zs cs:List Ce):Option (Wk × List Lf × Bool) :=
 match (bif fz then none else k.absorbD zs cs) with
 | some (k,xs)=>some (k,xs,true)
 | none=>k.absorb true zs cs
def splice (cs:List Ce) (off:Nat) (vs:List Ce):List Ce:=cs.take off++vs++cs.drop (off+vs.length)
def Wk.row (k:Wk) (sc:Bool) (s ix:Lf) (w off:Nat):Nat→Wk × List Ce
 | 0=>(k,[])
 | n+1 =>
  let (k,y):=k.em (bif sc then .scell w off else .cell w off) [s,ix]
  let (k,cs):=Wk.row k sc s ix w (off+1) n
  (k,.p y :: cs)
def Wk.rowN (k:Wk) (y ix:Lf) (id:Nat) (q:Pth) (w off:Nat):List Ce→Wk × List Ce
 | []=>(k,[])
 | z :: zs =>
  bif isN z then
   let r:=Wk.rowN (k.em (.dig w off) [y,ix]).1 y ix id q w (off+1) zs
   (r.1,.o id (q++[(ix,w,off)]) :: r.2)
  else
   let r:=Wk.rowN (k.em (.scell w off) [y,ix]).1 y ix id q w (off+1) zs
   (r.1,.p (k.em (.scell w off) [y,ix]).2 :: r.2)
def storeAt (cx:Cx) (k:Wk) (t:Nat) (ad v:SV):Option Wk :=
 (cx.ty t).bind fun ti=>(cellsOf v).bind fun cs =>
 bif Nat.beq cs.length ti.sz then
  match ad with
  | .pt bx off =>
   match k.get (.x bx) with
   | .v ag old=>bif Nat.ble (off+cs.length) old.length then some (k.set (.x bx) (.v ag (splice old off cs))) else none
   | _=>none
  | .ep id q ix w off =>
   bif Nat.beq (id % 4) 2 then none else
   bif ti.zero.any isN then
    match q with
    | []=>(k.flat id).bind fun k=>(k.thaws cs).bind fun k=>(k.vals cs).bind fun (k,xs) =>
     match k.get (.o id) with
     | .ob _ x =>
      let (k,y):=k.em (.put false w off xs.length) (x :: ix :: xs)
      some (k.set (.o id) (.ob false y))
     | _=>none
    | _=>none
   else (k.vals cs).bind fun (k,xs) =>
    match k.get (.o id) with
    | .ob dp x =>
     bif dp || q.isEmpty then
      let (k,y):=k.down x q
      let (k,y):=k.em (.put true w off xs.length) (y :: ix :: xs)
      let (k,y):=k.up x y q
      some (k.set (.o id) (.ob dp y))
     else none
    | _=>none
  | _=>none
 else none
def storeD (cx:Cx) (k:Wk) (t:Nat) (ad v:SV):Option Wk :=
 match ad with
 | .ep id [] ix w off =>
  (cx.ty t).bind fun ti=>(cellsOf v).bind fun cs =>
  bif Nat.beq cs.length ti.sz && ti.zero.any isN && Nat.beq (id % 4) 0 then
   match k.get (.o id) with
   | .ob true x=>(k.absorbD ti.zero cs).bind fun (k2,xs) =>
    match k2.get (.o id) with
    | .ob true _ =>
     let (k3,y):=k2.em (.putD (ti.zero.map fun z=>!isN z) w off) (x :: ix :: xs)
     some (k3.set (.o id) (.ob true y))
    | _=>none
   | _=>none
  else none
 | _=>none
def loadAt (cx:Cx) (nest:Bool) (k:Wk) (t:Nat):SV→Option (Wk × SV)
 | .pt bx off=>(cx.ty t).bind fun ti =>
  match k.get (.x bx) with
  | .v _ cs=>bif Nat.ble (off+ti.sz) cs.length then some (k,.v ti.ag ((cs.drop off).take ti.sz)) else none
  | _=>none
 | .fp s ix w off=>(cx.ty t).bind fun ti =>
  let (k,cs):=k.row false s ix w off ti.sz
  some (k,.v ti.ag cs)
 | .ep id q ix w off=>(cx.ty t).bind fun ti =>
  match k.get (.o id) with
  | .ob true x =>
   bif nest && ti.zero.any isN && Nat.beq ti.zero.length ti.sz && Nat.beq (id % 2) 1 then
    let (k,y):=k.down x q
    let (k,cs):=k.rowN y ix id q w off ti.zero
    some (k,.v ti.ag cs)
   else bif ti.zero.any isN then
    match q with
    | []=>bif Nat.beq (id % 2) 0 then
      let (k,cs):=k.row false x ix w off ti.sz
      some (k,.v ti.ag cs)
     else (k.flat id).bind fun k =>
     let (k,cs):=k.row false x ix w off ti.sz
     some (k,.v ti.ag cs)
    | _=>none
   else
    let (k,y):=k.down x q
    let (k,cs):=k.row true y ix w off ti.sz
    some (k,.v ti.ag cs)
  | .ob false x | .fz _ x =>
   match q with
   | [] =>
    let (k,cs):=k.row false x ix w off ti.sz
    some (k,.v ti.ag cs)
   | _=>none
  | _=>none
 | _=>none
def odN (i:Nat):Nat:=i+(1 - i % 2)
def evN (i:Nat):Nat:=i+(4 - i % 4) % 4
def tkN (i:Nat):Nat:=i+(6 - i % 4) % 4
theorem odN_le (i:Nat):i≤odN i:=by unfold odN;omega
theorem evN_le (i:Nat):i≤evN i:=by unfold evN;omega
theorem tkN_le (i:Nat):i≤tkN i:=by unfold tkN;omega
theorem tkN_mod (i:Nat):tkN i % 4=2:=by unfold tkN;omega
def isZ:Lf→Bool
 | .k (.int _ n)=>decide (n=0)
 | _=>false
def Wk.rowT (k:Wk) (y ix:Lf) (j:Nat) (w off:Nat):List Ce→Wk × List Ce × Lf
 | []=>(k,[],.e)
 | z :: zs =>
  bif isN z then
   let r:=Wk.rowT (k.em (.dig w off) [y,ix]).1 y ix j w (off+1) zs
   (r.1,.o j [] :: r.2.1,(k.em (.dig w off) [y,ix]).2)
  else
   let r:=Wk.rowT (k.em (.scell w off) [y,ix]).1 y ix j w (off+1) zs
   (r.1,.p (k.em (.scell w off) [y,ix]).2 :: r.2.1,r.2.2)
def loadT (cx:Cx) (k:Wk) (t:Nat):SV→Option (Wk × SV)
 | .ep id [] ix w off=>(cx.ty t).bind fun ti =>
  match k.get (.o id) with
  | .fz (.w tk x0 lo) x =>
   match k.get (.o tk) with
   | .tk y0 m =>
    bif isZ lo && x0.beq y0 && Nat.beq (ti.zero.filter isN).length 1 && Nat.beq ti.zero.length ti.sz then
     let j:=tkN k.ct.i
     let r:=k.rowT x ix j w off ti.zero
     let q:=r.1.em .tk1 [m,ix]
     some ({ ((q.1.set (.o tk) (.tk y0 q.2)).set (.o j) (.fl r.2.2)) with ct:=⟨q.1.ct.a,j+1⟩ },.v ti.ag r.2.1)
    else none
   | _=>none
  | _=>none
 | _=>none
def indexAt (cx:Cx) (k:Wk) (t:Nat) (s ix:SV):Option (Wk × SV) :=
 (cx.ty t).bind fun ti=>(cx.ty ti.el).bind fun te =>
 bif Nat.beq ti.kd 3 then
  (k.one ix).bind fun (k,i) =>
   match s with
   | .v false [.p x] =>
    let (k,_):=k.em .bnd [x,i]
    some (k,.fp x i te.sz 0)
   | .v false [.o id q] =>
    match k.get (.o id),q with
    | .ob true x,q =>
     let (k,y):=k.down x q
     let (k,_):=k.em .bnd [y,i]
     some (k,.ep id q i te.sz 0)
    | .ob false x,[] =>
     let (k,_):=k.em .bnd [x,i]
     some (k,.ep id [] i te.sz 0)
    | .fz (.w tk x0 lo) x,[] =>
     let (k,_):=k.em .bnd [x,i]
     bif isZ lo then some (k,.ep id [] i te.sz 0) else some (k,.fp x i te.sz 0)
    | .fz _ x,[] =>
     let (k,_):=k.em .bnd [x,i]
     some (k,.fp x i te.sz 0)
    | _,_=>none
   | _=>none
 else none
def fieldAt (cx:Cx) (t f:Nat):SV→Option SV
 | .pt bx off=>(cx.ty t).bind fun ti=>(ti.fs[f]?).bind fun o=>some (.pt bx (off+o.1))
 | .ep id q ix w off=>(cx.ty t).bind fun ti=>(ti.fs[f]?).bind fun o=>some (.ep id q ix w (off+o.1))
 | .fp s ix w off=>(cx.ty t).bind fun ti=>(ti.fs[f]?).bind fun o=>some (.fp s ix w (off+o.1))
 | _=>none
def Wk.args (k:Wk):List SV→List PS→Option (Wk × List Lf × List (Nat × Bool × Nat))
 | [],[]=>some (k,[],[])
 | .v ag cs :: vs,.v ag' n :: ps =>
  bif (ag == ag') && Nat.beq cs.length n then
   (k.vals cs).bind fun (k,xs)=>(Wk.args k vs ps).bind fun (k,ys,bs)=>some (k,xs++ys,bs)
  else none
 | .pt bx 0 :: vs,.x n :: ps =>
  match k.get (.x bx) with
  | .v ag cs =>
   bif Nat.beq cs.length n then
    (k.thaws cs).bind fun k=>(k.vals cs).bind fun (k,xs)=>(Wk.args k vs ps).bind fun (k,ys,bs)=>some (k,xs++ys,(bx,ag,n) :: bs)
   else none
  | _=>none
 | _,_=>none
def csOf:SV→List Ce
 | .v _ cs=>cs
 | _=>[]
def allCs:List SV→List Ce
 | []=>[]
 | v :: vs=>csOf v++allCs vs
def hasP (sg:Sig):Bool:=sg.rs.any (fun r=>r.2.any fun | .p | .o false=>true | _=>false) || sg.ps.any fun | .x _=>true | _=>false
def newCs:Ct→List Ck→Ct × List Ce × St
 | ct,[]=>(ct,[],[])
 | ct,.o dp :: ks =>
  let r:=newCs ⟨ct.a+1,odN ct.i+1⟩ ks
  (r.1,.o (odN ct.i) [] :: r.2.1,(.o (odN ct.i),.ob dp (.a ct.a)) :: r.2.2)
 | ct,_ :: ks =>
  let r:=newCs ⟨ct.a+1,ct.i⟩ ks
  (r.1,.p (.a ct.a) :: r.2.1,r.2.2)
def newVs:Ct→List (Bool × List Ck)→Ct × List (Bool × List Ce) × St
 | ct,[]=>(ct,[],[])
 | ct,r :: rs =>
  let x:=newCs ct r.2
  let y:=newVs x.1 rs
  (y.1,(r.1,x.2.1) :: y.2.1,x.2.2++y.2.2)
def atomsFrom (a:Nat):Nat→List Ce
 | 0=>[]
 | n+1=>.p (.a a) :: atomsFrom (a+1) n
def newBx:Nat→List (Nat × Bool × Nat)→Nat × St
 | a,[]=>(a,[])
 | a,(bx,ag,n) :: bs =>
  let r:=newBx (a+n) bs
  (r.1,(.x bx,.v ag (atomsFrom a n)) :: r.2)
def tupSV:List (Bool × List Ce)→SV
 | []=>.un
 | [v]=>.v v.1 v.2
 | vs=>.tp vs
def nodupN:List Nat→Bool
 | []=>true
 | x :: xs=>!(xs.any (Nat.beq x)) && nodupN xs
def callAt (k:Wk) (d:Nat) (dst:Option Nat) (g:Nat) (sg:Sig) (vs:List SV):Option Wk :=
 (bif hasP sg then k.thaws (allCs vs) else some k).bind fun k =>
 (k.args vs sg.ps).bind fun (k,xs,bs) =>
 bif nodupN (bs.map (·.1)) then
  let r:=newVs k.ct sg.rs
  let b:=newBx r.1.a bs
  let dw:St:=match dst with | some n=>[(.t d n,tupSV r.2.1)] | none=>[]
  some { r:=k.r,w:=(dw++(r.2.2++b.2))++k.w,ct:=⟨b.1,r.1.i⟩,is:=.cl g xs (b.1 - k.ct.a) :: k.is }
 else none
def placed (cs:List Ce):List (Nat × List Ce)→Option (List Ce)
 | []=>some cs
 | (off,vs) :: ps=>bif Nat.ble (off+vs.length) cs.length then placed (splice cs off vs) ps else none
def parts (d:Nat) (s:Res→SV) (fs:List (Nat × Nat)):List (Nat × Operand)→Option (List (Nat × List Ce))
 | []=>some []
 | (f,x) :: ps=>(fs[f]?).bind fun o=>(cellsOf (opnd d s x)).bind fun cs=>bif Nat.beq cs.length o.2 then (parts d s fs ps).bind fun l=>some ((o.1,cs) :: l) else none
def kdCe:Ce→Nat
 | .p (.k (.int _ _))=>1
 | .p (.k (.string _))=>2
 | .p (.k (.bool _))=>4
 | _=>0
def eqCells (k:Wk) (op:BinOp) (ks:List Nat) (xs ys:List Ce):Option (Wk × Lf) :=
 (k.vals xs).bind fun (k,xs)=>(k.vals ys).bind fun (k,ys) =>
  let (k,r):=k.em (.eqs ks) (xs++ys)
  match op with
  | .eql=>some (k,r)
  | .neq=>some (k.em (.un .not) [r])
  | _=>none
def repCe (zs:List Ce):Nat→List Ce
 | 0=>[]
 | n+1=>zs++repCe zs n
def appA (k:Wk):SV→Option (Wk × Lf × Bool)
 | .v false [.n]=>some (k,.e,true)
 | .v false [.o id []] =>
  match k.get (.o id) with
  | .ob dp x=>bif Nat.beq (id % 4) 2 then none else some (k.set (.o id) .un,x,dp)
  | _=>none
 | _=>none
def Wk.toks (k:Wk):SV→Option Wk
 | .v false [.o j []] =>
  match k.get (.o j) with
  | .fz (.w tk x0 lo) y =>
   match k.get (.o tk) with
   | .tk y0 m=>bif x0.beq y0 && Nat.beq (j % 4) 0 then
     let r:=k.em .tkn [m,lo,y]
     some ((r.1.set (.o tk) (.tk y0 r.2)).set (.o j) (.fr y))
    else none
   | _=>none
  | _=>none
 | _=>none
def Wk.toksIf (k:Wk) (b:Bool) (v:SV):Wk :=
 match (bif b then k.toks v else none) with
 | some k'=>k'
 | none=>k
def appB (sl fz:Bool) (k:Wk):SV→Option (Wk × Lf × Bool)
 | .v false [.n]=>some (k,.e,true)
 | .v false [.p x]=>some (k,x,!sl)
 | .v false [.o id q] =>
  bif sl then
   match k.get (.o id),q with
   | .ob dp x,[]=>bif dp && !fz then some (k.set (.o id) .un,x,true) else some (k.set (.o id) (.ob false x),x,false)
   | .fz _ x,[]=>some (k,x,false)
   | .fr x,[]=>bif fz then none else some (k.set (.o id) .un,x,true)
   | _,_=>none
  else (k.val (.o id q)).bind fun r=>some (r.1,r.2,true)
 | _=>none
def sliceT (cx:Cx) (k:Wk) (t:Nat) (x:SV) (lo hi:Option SV):Option (Wk × SV) :=
 match x with
 | .v false [.o id []] =>
  match k.get (.o id) with
  | .fz (.w tk x0 l0) y =>
   (cx.ty t).bind fun ti=>(cx.ty ti.el).bind fun te =>
   bif Nat.beq ti.kd 3 && isZ l0 then
    (match lo with
     | none=>some (k,[])
     | some l=>(k.one l).bind fun (k,l)=>some (k,[l])).bind fun (k,ls) =>
    (match hi with
     | none=>some (k,[])
     | some h=>(k.one h).bind fun (k,h)=>some (k,[h])).bind fun (k,hs) =>
    let r:=k.em (.sub te.sz lo.isSome hi.isSome) (y :: (ls++hs))
    let j:=evN k.ct.i
    some ({ (r.1.set (.o j) (.fz (.w tk x0 (ls.headD (.k (.int .i64 0)))) r.2)) with ct:=⟨r.1.ct.a,j+1⟩ },.v false [.o j []])
   else none
  | _=>none
 | _=>none
def stepOp (cx:Cx) (fid rid:Nat) (d:Nat) (o:Oper) (oi:Nat) (k:Wk):Option Wk :=
 let put (k:Wk) (v:SV):Wk:=match o.dst with | some n=>k.set (.t d n) v | none=>k
 let one (x:Operand):SV:=opnd d k.get x
 let lf (r:Wk × Lf):Option Wk:=some (put r.1 (.v false [.p r.2]))
 match o.op with
 | .move x | .assign x=>some (put k (one x))
 | .alloc t=>(cx.ty t).bind fun ti=>some (put { (k.set (.x k.ct.i) (.v ti.ag ti.zero)) with ct:=⟨k.ct.a,k.ct.i+1⟩ } (.pt k.ct.i 0))
 | .box t x=>(cx.ty t).bind fun ti=>(cellsOf (one x)).bind fun cs =>
   bif Nat.beq cs.length ti.sz then some (put { (k.set (.x k.ct.i) (.v ti.ag cs)) with ct:=⟨k.ct.a,k.ct.i+1⟩ } (.pt k.ct.i 0)) else none
 | .build t ps=>(cx.ty t).bind fun ti=>bif ti.ag then (parts d k.get ti.fs ps.toList).bind fun l=>(placed ti.zero l).bind fun cs=>some (put k (.v true cs)) else none
 | .buildSlice t n ps=>(cx.ty t).bind fun ti=>(cx.ty ti.el).bind fun te=>bif Nat.beq ti.kd 3 && Nat.ble (n * te.sz) 65536 && Nat.blt 0 te.sz then
   (parts d k.get ((List.range n).map fun i=>(i * te.sz,te.sz)) ps.toList).bind fun l=>(placed (repCe te.zero n) l).bind fun cs =>
    (k.absorb2 (cx.fz fid rid oi) (repCe te.zero n) cs).bind fun (k,xs,dp) =>
     let (k,y):=k.em (.lit te.sz (bif dp then (repCe te.zero n).map (fun z=>!isN z) else [])) xs
     let id:=evN k.ct.i
     some (put { (k.set (.o id) (.ob dp y)) with ct:=⟨k.ct.a,id+1⟩ } (.v false [.o id []]))
   else none
 | .makeSlice t l c=>(cx.ty t).bind fun ti=>(cx.ty ti.el).bind fun te=>(k.one (one l)).bind fun (k,n)=>(k.one (one c)).bind fun (k,m) =>
   (k.vals te.zero).bind fun (k,zs)=>bif Nat.beq ti.kd 3 && Nat.ble te.bytes 65536 && Nat.blt 0 te.sz then
    let (k,y):=k.em .mk (n :: m :: zs)
    let id:=evN k.ct.i
    some (put { (k.set (.o id) (.ob true y)) with ct:=⟨k.ct.a,id+1⟩ } (.v false [.o id []]))
   else none
 | .load t a=>(match (bif cx.fz fid rid oi then loadT cx k t (one a) else none) with | some r=>some r | none=>loadAt cx (cx.nest fid) k t (one a)).bind fun (k,v)=>some (put k v)
 | .store t a x=>(match (bif cx.fz fid rid oi then none else storeD cx k t (one a) (one x)) with | some k=>some k | none=>storeAt cx k t (one a) (one x)).bind fun k=>some (put k .un)
 | .nilCheck x=>match one x with
   | .pt bx off=>some (put k (.pt bx off))
   | .ep id q ix w off=>some (put k (.ep id q ix w off))
   | .fp s ix w off=>some (put k (.fp s ix w off))
   | _=>none
 | .binOp op t x y _=>match one x,one y with
   | .v false [a],.v false [b]=>(cx.ty t).bind fun ti=>(k.val a).bind fun (k,a)=>(k.val b).bind fun (k,b) =>
     bif Nat.beq ti.kd 4 then lf (k.em (.bb op) [a,b])
     else bif Nat.beq ti.kd 1 || Nat.beq ti.kd 2 then lf (k.em (.bin op) [a,b]) else none
   | .v true es,.v true bs=>(cx.ty t).bind fun ti=>bif Nat.beq ti.kd 5 && Nat.beq es.length ti.sz then (eqCells k op (ti.zero.map kdCe) es bs).bind lf else none
   | _,_=>none
 | .unOp op _ x=>(k.one (one x)).bind fun (k,a)=>lf (k.em (.un op) [a])
 | .convert s t x=>(cx.ty s).bind fun si=>(cx.ty t).bind fun ti=>(k.one (one x)).bind fun (k,a) =>
   match ti.zero with
   | [.p (.k (.int kk _))]=>bif Nat.beq ti.kd 1 && Nat.beq si.kd 1 then lf (k.em (.cnv kk) [a]) else none
   | [.p (.k (.string _))]=>bif Nat.beq ti.kd 2 && Nat.beq si.kd 3 then (cx.ty si.el).bind fun te =>
     match te.zero with
     | [.p (.k (.int .u8 _))]=>bif Nat.beq te.kd 1 then lf (k.em .str [a]) else none
     | _=>none
    else none
   | _=>none
 | .slice t x lo hi mx=>match (bif mx.isSome then none else sliceT cx k t (one x) (lo.map one) (hi.map one)) with
  | some (k,v)=>some (put k v)
  | none=>(cx.ty t).bind fun ti=>(k.thaws (csOf (one x))).bind fun k=>(k.one (one x)).bind fun (k,a) =>
   match mx with
   | some _=>none
   | none =>
   (match lo with
    | none=>some (k,[])
    | some l=>(k.one (one l)).bind fun (k,l)=>some (k,[l])).bind fun (k,ls) =>
   (match hi with
    | none=>some (k,[])
    | some h=>(k.one (one h)).bind fun (k,h)=>some (k,[h])).bind fun (k,hs) =>
   bif Nat.beq ti.kd 3 then (cx.ty ti.el).bind fun te=>lf (k.em (.sub te.sz lo.isSome hi.isSome) (a :: (ls++hs)))
   else bif Nat.beq ti.kd 2 then lf (k.em (.subs lo.isSome hi.isSome) (a :: (ls++hs))) else none
 | .fieldAddr t x f=>(fieldAt cx t f (one x)).bind fun v=>some (put k v)
 | .indexAddr t x i=>(indexAt cx k t (one x) (one i)).bind fun (k,v)=>some (put k v)
 | .index t x i=>(cx.ty t).bind fun ti=>(k.one (one x)).bind fun (k,a)=>(k.one (one i)).bind fun (k,i) =>
   bif Nat.beq ti.kd 2 then lf (k.em .idx [a,i]) else none
 | .extract x i=>match one x with
   | .tp vs=>(vs[i]?).bind fun v=>some (put k (.v v.1 v.2))
   | _=>none
 | .makeFunc (.func f) first caps=>bif first.isEmpty then
   (caps.toList.mapM fun x=>match one x with | .pt b 0=>some b | _=>none).bind fun bs=>some (put k (.cl f bs)) else none
 | .call c=>match c.callee,c.args.toList with
   | .builtin .len,[x]=>((c.argTypes[0]?).bind cx.ty).bind fun ti=>(k.one (one x)).bind fun (k,a) =>
     bif Nat.beq ti.kd 3 then lf (k.em .len [a]) else bif Nat.beq ti.kd 2 then lf (k.em .lens [a]) else none
   | .builtin .max,[x,y]=>(k.one (one x)).bind fun (k,a)=>(k.one (one y)).bind fun (k,b)=>lf (k.em .mx [a,b])
   | .builtin .min,[x,y]=>(k.one (one x)).bind fun (k,a)=>(k.one (one y)).bind fun (k,b)=>lf (k.em .mn [a,b])
   | .builtin .append,[x,y]=>match c.argTypes.toList with
    | [t,tx]=>(cx.ty t).bind fun ti=>(cx.ty tx).bind fun tj=>(cx.ty ti.el).bind fun te =>
     bif Nat.beq ti.kd 3 && Nat.beq tj.kd 3 && Nat.ble te.bytes 32768 && Nat.blt 0 te.sz then
     let sl:=te.zero.any isN
     (appA k (one x)).bind fun (k,a,dp)=>(appB sl (cx.fz fid rid oi) (k.toksIf (sl && !cx.fz fid rid oi) (one y)) (one y)).bind fun (k,b,dp') =>
     let (k,r):=k.em (.app (!sl) te.sz) [a,b]
     let id:=evN k.ct.i
     some (put { (k.set (.o id) (.ob (dp && dp') r)) with ct:=⟨k.ct.a,id+1⟩ } (.v false [.o id []]))
     else none
    | _=>none
   | .value (.func g),xs=>(cx.sg g).bind fun sg=>callAt k d o.dst g sg (xs.map one)
   | _,_=>none
 | _=>none
def mentCs:List Ce→List Res
 | []=>[]
 | .o id _ :: cs=>.o id :: mentCs cs
 | _ :: cs=>mentCs cs
def mentSV:SV→List Res
 | .v _ cs=>mentCs cs
 | .pt bx _=>[.x bx]
 | .ep id _ _ _ _=>[.o id]
 | .cl _ bs=>bs.map .x
 | .tp vs=>vs.flatMap fun v=>mentCs v.2
 | .fz (.w tk _ _) _=>[.o tk]
 | _=>[]
def tmpsOf (o:Oper):List Nat:=o.op.operands.toList.filterMap fun | .tmp t=>some t | _=>none
def deep (s:St):List Res→List Res
 | []=>[]
 | r :: rs=>mentSV (s.get r)++deep s rs
def looks:Op→Bool
 | .move _ | .assign _ | .fieldAddr .. | .build .. | .box .. | .makeFunc .. | .nilCheck _ | .alloc _ | .extract ..=>false
 | _=>true
def takes:Op→Bool
 | .load .. | .call _=>true
 | _=>false
def objIds:List Res→List Res
 | []=>[]
 | .o n :: rs=>.o n :: objIds rs
 | _ :: rs=>objIds rs
def boxIds:List Res→List Res
 | []=>[]
 | .x n :: rs=>.x n :: boxIds rs
 | _ :: rs=>boxIds rs
def rdsOf (d:Nat) (s:St) (o:Oper):List Res :=
 let ts:=(tmpsOf o).map (Res.t d)
 bif looks o.op then
  let m:=deep s ts
  let b:=deep s (boxIds m)
  ts++m++b++bif takes o.op then deep s (objIds (m++b)) else []
 else ts
def St.only (s:St):List Res→St
 | []=>[]
 | r :: rs=>(r,s.get r) :: St.only s rs
def St.sets (s:St):St→St
 | []=>s
 | (r,v) :: w=>(St.sets s w).set r v
structure Tr where
 rd:List Res
 wr:List Res
def meets (xs ys:List Res):Bool:=xs.any fun x=>ys.any x.beq
def apartTr (a b:Tr):Bool:=!meets a.wr b.rd && !meets a.wr b.wr && !meets a.rd b.wr
def befores:List Nat→List Oper→List Nat
 | acc,[]=>acc
 | acc,o :: os=>befores (acc++[o.after.toList.foldl (fun s e=>bif Region.binds .any e && Nat.blt e.on acc.length then s ||| (2 ^ e.on) ||| (acc.getD e.on 0) else s) 0]) os
def fwdOk:Nat→List Oper→Bool
 | _,[]=>true
 | i,o :: os=>o.after.toList.all (fun e=>!Region.binds .any e || Nat.blt e.on i) && fwdOk (i+1) os
def dstOk (nt:Nat):Code→Bool
 | .region _ ops _=>ops.toList.all fun o=>match o.dst with | some n=>Nat.blt n nt | none=>true
 | .seq a b=>dstOk nt a && dstOk nt b
 | .cond _ a b=>dstOk nt a && dstOk nt b
 | .block _ a=>dstOk nt a
 | .loop a=>dstOk nt a
 | .scope a=>dstOk nt a
 | _=>true
def okOne (bj:Nat) (t:Tr):Nat→List Tr→Bool
 | _,[]=>true
 | i,u :: us=>(Nat.testBit bj i || apartTr u t) && okOne bj t (i+1) us
def okAll:List Tr→List Tr→List Nat→Bool
 | done,t :: ts,b :: bs=>okOne b t 0 done && okAll (done++[t]) ts bs
 | _,_,_=>true
def isBool (s:SV):Option Lf :=
 match s with
 | .v false [.p x]=>some x
 | _=>none
inductive Dec where
 | nil
 | is (b:Bool)
 | ask (n:Nat)
 | no
def decide1 (fs:Facts) (s:SV):Dec :=
 match s with
 | .tp _=>.nil
 | s =>
 match isBool s with
 | some (.k (.bool b))=>.is b
 | some (.a n)=>match fact fs n with
  | some b=>.is b
  | none=>.ask n
 | _=>.no
def wrap:List Ins→PL→PL
 | [],k=>k
 | i :: is,k=>wrap is (.ins i k)
abbrev KP:=Nat→St→Ct→Facts→Option PL
def intoOf (cx:Cx) (d:Nat) (s:St) (o:Oper):Option (Nat × List SV) :=
 match o.op with
 | .call c=>match c.callee with
  | .value x=>match opnd d s.get x with
   | .cl g bs=>match cx.sg g with
    | some _=>none
    | none=>some (g,c.args.toList.map (opnd d s.get)++bs.map fun b=>.pt b 0)
   | _=>none
  | _=>none
 | _=>none
abbrev Into:=Nat→Nat→List SV→Nat→St→Ct→Facts→(List SV→KP)→Option PL
def compsOf:List SV→Option (List (Bool × List Ce))
 | []=>some []
 | .v ag cs :: vs=>(compsOf vs).bind fun l=>some ((ag,cs) :: l)
 | _=>none
def isz:List Ins→Nat
 | []=>0
 | .pr _ _ :: is=>isz is+1
 | .cl _ _ m :: is=>isz is+m
def Lf.bel (a:Nat):Lf→Bool
 | .a n=>Nat.blt n a
 | _=>true
def insOk:Nat→List Ins→Bool
 | _,[]=>true
 | e,.pr _ xs :: is=>Nat.blt 0 e && xs.all (Lf.bel (e - 1)) && insOk (e - 1) is
 | e,.cl _ xs m :: is=>Nat.ble m e && xs.all (Lf.bel (e - m)) && insOk (e - m) is
def guardR (d:Nat) (ops:Array Oper) (o:Oper):List Res :=
 match o.guard with
 | none=>[]
 | some (j,_)=>match (ops[j]?).bind (·.dst) with
  | some g=>[.t d g]
  | none=>[]
def pickOf (d:Nat) (s:St) (o:Oper) (fs:Facts):Option (Dec × SV × SV) :=
 match o.op with
 | .pick c a b=>some (decide1 fs (opnd d s.get c),opnd d s.get a,opnd d s.get b)
 | _=>none
abbrev Rec:=List Tr→Nat→St→Ct→Facts→Option PL
def skipO (d:Nat) (ops:Array Oper) (o:Oper) (rc:Rec) (tr:List Tr) (lv:Nat) (s:St) (ct:Ct) (fs:Facts):Option PL :=
 match o.dst with
 | some n=>rc (tr++[⟨guardR d ops o,[.t d n]⟩]) lv (s.set (.t d n) (.tp [])) ct fs
 | none=>rc (tr++[⟨guardR d ops o,[]⟩]) lv s ct fs
def pickO (d:Nat) (ops:Array Oper) (o:Oper) (rc:Rec) (tr:List Tr) (lv:Nat) (s:St) (ct:Ct) (fs:Facts) (v:SV):Option PL :=
 match o.dst with
 | some n=>rc (tr++[⟨guardR d ops o++(tmpsOf o).map (Res.t d),[.t d n]⟩]) lv (s.set (.t d n) v) ct fs
 | none=>none
def backO (d:Nat) (o:Oper) (rc:Rec) (tr:List Tr):List SV→KP:=fun rs lv s ct fs =>
 match o.dst,rs with
 | none,_=>rc tr lv s ct fs
 | some n,[v]=>rc tr lv (s.set (.t d n) v) ct fs
 | some n,[]=>rc tr lv (s.set (.t d n) .un) ct fs
 | some n,rs=>(compsOf rs).bind fun vs=>rc tr lv (s.set (.t d n) (.tp vs)) ct fs
def doO (cx:Cx) (into:Into) (fid rid d:Nat) (ops:Array Oper) (draw:Bool) (o:Oper) (i:Nat) (rc:Rec) (tr:List Tr) (lv:Nat) (s:St) (ct:Ct) (fs:Facts):Option PL :=
 match pickOf d s o fs with
 | some (dc,a,b) =>
  match dc with
  | .is true=>pickO d ops o rc tr lv s ct fs a
  | .is false=>pickO d ops o rc tr lv s ct fs b
  | .ask n=>(pickO d ops o rc tr lv s ct ((n,true) :: fs) a).bind fun x=>(pickO d ops o rc tr lv s ct ((n,false) :: fs) b).bind fun y=>some (.ite n x y)
  | .nil | .no=>some (.dbg (fid * 100000000+2000000+rid * 1000+i) [s])
 | none =>
  match intoOf cx d s o with
  | some (g,vs) =>
   bif draw then some (.dbg (fid * 100000000+4000000+rid * 1000+i) [s]) else
   into (d+1) g vs lv s ct fs (backO d o rc tr)
  | none =>
   match stepOp cx fid rid d o i ⟨s.only (rdsOf d s o),[],ct,[]⟩ with
   | none=>some (.dbg (fid * 100000000+1000000+rid * 1000+i) [s.only (rdsOf d s o)])
   | some k =>
    bif Nat.beq k.ct.a (ct.a+isz k.is) && Nat.ble ct.i k.ct.i && insOk k.ct.a k.is then
     (rc (tr++[⟨guardR d ops o++rdsOf d s o,k.w.map (·.1)⟩]) lv (s.sets k.w) k.ct fs).bind fun p=>some (wrap k.is p)
    else none
def oneO (cx:Cx) (into:Into) (fid rid d:Nat) (ops:Array Oper) (draw:Bool) (o:Oper) (i:Nat) (rc:Rec) (tr:List Tr) (lv:Nat) (s:St) (ct:Ct) (fs:Facts):Option PL :=
 let run:=doO cx into fid rid d ops draw o i rc tr lv s ct
 let skip:=skipO d ops o rc tr lv s ct
 match o.guard with
 | none=>run fs
 | some (j,want) =>
  match (ops[j]?).bind (·.dst) with
  | none=>none
  | some g =>
   match decide1 fs (s.get (.t d g)) with
   | .nil=>skip fs
   | .is b=>bif b == want then run fs else skip fs
   | .ask n=>(bif true == want then run ((n,true) :: fs) else skip ((n,true) :: fs)).bind fun x =>
     (bif false == want then run ((n,false) :: fs) else skip ((n,false) :: fs)).bind fun y=>some (.ite n x y)
   | .no=>some (.dbg (fid * 100000000+3000000+rid * 1000+i) [s])
def runOps (cx:Cx) (into:Into) (fid rid d:Nat) (ops:Array Oper) (draw:Bool) (fin:List Tr→KP) :
  List Oper→Nat→Rec
 | [],_=>fin
 | o :: os,i=>oneO cx into fid rid d ops draw o i (runOps cx into fid rid d ops draw fin os (i+1))
inductive Ex where
 | normal
 | exit (id:Nat)
 | ret
def pthBeq:Pth→Pth→Bool
 | [],[]=>true
 | (x,w,j) :: p,(x',w',j') :: q=>x.beq x' && Nat.beq w w' && Nat.beq j j' && pthBeq p q
 | _,_=>false
def Ce.beq:Ce→Ce→Bool
 | .p x,.p y=>x.beq y
 | .o i s,.o j t=>Nat.beq i j && pthBeq s t
 | .n,.n=>true
 | .d,.d=>true
 | _,_=>false
def csBeq:List Ce→List Ce→Bool
 | [],[]=>true
 | c :: cs,e :: es=>c.beq e && csBeq cs es
 | _,_=>false
def nsBeq:List Nat→List Nat→Bool
 | [],[]=>true
 | c :: cs,e :: es=>Nat.beq c e && nsBeq cs es
 | _,_=>false
def vsBeq:List (Bool × List Ce)→List (Bool × List Ce)→Bool
 | [],[]=>true
 | (a,cs) :: vs,(b,es) :: us=>(a == b) && csBeq cs es && vsBeq vs us
 | _,_=>false
def Pv.beq:Pv→Pv→Bool
 | .z,.z=>true
 | .w t x l,.w u y m=>Nat.beq t u && x.beq y && l.beq m
 | _,_=>false
def SV.beq:SV→SV→Bool
 | .un,_=>true
 | .v a cs,.v b es=>(a == b) && csBeq cs es
 | .pt a b,.pt c d=>Nat.beq a c && Nat.beq b d
 | .ep i p x w j,.ep i' q x' w' j'=>Nat.beq i i' && pthBeq p q && x.beq x' && Nat.beq w w' && Nat.beq j j'
 | .fp s x w j,.fp s' x' w' j'=>s.beq s' && x.beq x' && Nat.beq w w' && Nat.beq j j'
 | .tp vs,.tp us=>vsBeq vs us
 | .cl f bs,.cl g cs=>Nat.beq f g && nsBeq bs cs
 | .ob a x,.ob b y=>(a == b) && x.beq y
 | .fz p x,.fz q y=>p.beq q && x.beq y
 | .tk x m,.tk y n=>x.beq y && m.beq n
 | .fl x,.fl y=>x.beq y
 | .fr x,.fr y=>x.beq y
 | _,_=>false
def jsRes (d:Nat) (s:St) (n:Nat) (bx:Bool):Res :=
 bif bx then match s.get (.t d n) with | .pt b _=>.x b | _=>.t d n else .t d n
def resIn (d:Nat) (s:St) (r:Res):Js→Bool
 | []=>false
 | (_,_,.rows _) :: js=>resIn d s r js
 | (n,bx,_) :: js=>(jsRes d s n bx).beq r || resIn d s r js
def headCs:Ct→List Ce→List Cj→Ct × List Ce × St × List Nat
 | ct,_,[]=>(ct,[],[],[])
 | ct,cs,j :: js =>
  let c:=cs.headD .d
  match j with
  | .k=>let (ct,es,w,ds):=headCs ct cs.tail js;(ct,c :: es,w,ds)
  | .p=>let (ct',es,w,ds):=headCs ⟨ct.a+1,ct.i⟩ cs.tail js;(ct',.p (.a ct.a) :: es,w,ds)
  | .o dp =>
   let (ct',es,w,ds):=headCs ⟨ct.a+1,evN ct.i+1⟩ cs.tail js
   (ct',.o (evN ct.i) [] :: es,(.o (evN ct.i),.ob dp (.a ct.a)) :: w,match c with | .o id _=>id :: ds | _=>ds)
  | .d=>let (ct,es,w,ds):=headCs ct cs.tail js;(ct,.d :: es,w,match c with | .o id _=>id :: ds | _=>ds)
def tkOf:SV→Option Nat
 | .fz (.w t _ _) _=>some t
 | _=>none
def headRows (s:St) (cs:List Ce):Ct→List (Nat × Bool)→Ct × St × List Nat
 | ct,[]=>(ct,[],[])
 | ct,(j,dp) :: js =>
  match cs[j]? with
  | some (.o id _) =>
   match tkOf (s.get (.o id)) with
   | some t =>
    match s.get (.o t) with
    | .tk x _=>let (ct',w,ds):=headRows s cs ⟨ct.a+1,ct.i⟩ js;(ct',(.o t,.tk x (.a ct.a)) :: w,t :: ds)
    | _=>headRows s cs ct js
   | none=>let (ct',w,ds):=headRows s cs ⟨ct.a+1,ct.i⟩ js;(ct',(.o id,.ob dp (.a ct.a)) :: w,id :: ds)
  | _=>headRows s cs ct js
def svCs:SV→List Ce
 | .v _ cs=>cs
 | _=>[]
def headNew (d:Nat) (s:St):Ct→Js→Ct × St × St × List Nat
 | ct,[]=>(ct,[],[],[])
 | ct,(_,_,.drop) :: js=>headNew d s ct js
 | ct,(n,bx,.phi ag cj) :: js =>
  let r:=jsRes d s n bx
  let (ct,es,w,ds):=headCs ct (svCs (s.get r)) cj
  let (ct,ps,ws,dds):=headNew d s ct js
  (ct,(r,.v ag es) :: ps,w++ws,ds++dds)
 | ct,(n,bx,.rows rj) :: js =>
  let (ct,w,ds):=headRows s (svCs (s.get (jsRes d s n bx))) ct rj
  let (ct,ps,ws,dds):=headNew d s ct js
  (ct,ps,w++ws,ds++dds)
def keepSt (d:Nat) (s0:St) (js:Js) (ds:List Nat):St→St
 | []=>[]
 | (r,v) :: s =>
  let gone:=match r with | .o id=>ds.any (Nat.beq id) | _=>false
  bif resIn d s0 r js || gone then keepSt d s0 js ds s else (r,v) :: keepSt d s0 js ds s
structure Head where
 s0:St
 kept:St
 new:St
 own:St
 c0:Ct
 ct:Ct
 js:Js
def Head.st (h:Head):St:=h.kept++h.own++h.new
def actCs (s:St):List Ce→List Cj→List (Nat × Bool)
 | .o id [] :: cs,.p :: js=>(id,true) :: actCs s cs js
 | .o id [] :: cs,.o false :: js=>(id,false) :: actCs s cs js
 | _ :: cs,_ :: js=>actCs s cs js
 | _,_=>[]
def actRows (cs:List Ce):List (Nat × Bool)→List (Nat × Bool)
 | []=>[]
 | (j,dp) :: js =>
  match cs[j]? with
  | some (.o id _)=>bif dp then actRows cs js else (id,false) :: actRows cs js
  | _=>actRows cs js
def actNew (d:Nat) (s0 s:St):Js→List (Nat × Bool)
 | []=>[]
 | (_,_,.drop) :: js=>actNew d s0 s js
 | (n,bx,.phi _ cj) :: js=>actCs s (svCs (s.get (jsRes d s0 n bx))) cj++actNew d s0 s js
 | (n,bx,.rows rj) :: js=>actRows (svCs (s0.get (jsRes d s0 n bx))) rj++actNew d s0 s js
def plainIds (s:St):List (Nat × Bool)→List Nat
 | []=>[]
 | (id,all) :: l=>bif all then (match s.get (.o id) with | .ob _ _=>id :: plainIds s l | _=>plainIds s l) else plainIds s l
def mkHead (d:Nat) (s:St) (ct:Ct) (js:Js):Head :=
 let (ct',ps,ws,ds):=headNew d s ct js
 { s0:=s,kept:=keepSt d s js (plainIds s (actNew d s s js)++ds) s,new:=ps,own:=ws,c0:=ct,ct:=ct',js }
def doActs (s:St):List (Nat × Bool)→St
 | []=>s
 | (id,all) :: l =>
  match s.get (.o id) with
  | .ob _ x=>doActs (s.set (.o id) (bif all then .fz .z x else .ob false x)) l
  | _=>doActs s l
abbrev Ren:=List (Nat × Option Nat)
def meetCs (s:St):List Ce→List Ce→List Cj→Option (List Lf × Ren)
 | [],[],[]=>some ([],[])
 | c :: cs,h :: hs,j :: js =>
  (meetCs s cs hs js).bind fun (xs,rn) =>
  match j with
  | .k | .d=>some (xs,rn)
  | .p=>match c with
   | .p x=>some (x :: xs,rn)
   | .n=>some (.e :: xs,rn)
   | .o id []=>match s.get (.o id) with
    | .fz _ x=>some (x :: xs,rn)
    | _=>none
   | _=>none
  | .o dp=>match h with
   | .o i []=>match c with
    | .n=>some (.e :: xs,(i,none) :: rn)
    | .o id []=>match s.get (.o id) with
     | .ob _ x=>some (x :: xs,(i,some id) :: rn)
     | _=>none
    | _=>none
   | _=>none
 | _,_,_=>none
def meetRows (s0 s:St) (cs:List Ce):List (Nat × Bool)→Option (List Lf)
 | []=>some []
 | (j,dp) :: js =>
  match cs[j]? with
  | some (.o id _) =>
   match tkOf (s0.get (.o id)) with
   | some t =>
    match s0.get (.o t) with
    | .tk _ _=>match s.get (.o t) with
     | .tk _ m=>(meetRows s0 s cs js).bind fun xs=>some (m :: xs)
     | _=>none
    | _=>meetRows s0 s cs js
   | none=>match s.get (.o id) with
    | .ob _ x=>(meetRows s0 s cs js).bind fun xs=>some (x :: xs)
    | _=>none
  | _=>meetRows s0 s cs js
def meetNew (d:Nat) (s0 s:St):St→Js→Option (List Lf × Ren)
 | ps,(_,_,.drop) :: js=>meetNew d s0 s ps js
 | (r',.v ag hs) :: ps,(n,bx,.phi ag' cj) :: js =>
  (meetCs s (svCs (s.get (jsRes d s0 n bx))) hs cj).bind fun (xs,rn)=>(meetNew d s0 s ps js).bind fun (ys,rm)=>some (xs++ys,rn++rm)
 | ps,(n,bx,.rows rj) :: js =>
  (meetRows s0 s (svCs (s0.get (jsRes d s0 n bx))) rj).bind fun xs=>(meetNew d s0 s ps js).bind fun (ys,rm)=>some (xs++ys,rm)
 | [],[]=>some ([],[])
 | _,_=>none
def pthBel (a:Nat):Pth→Bool
 | []=>true
 | (x,_,_) :: q=>x.bel a && pthBel a q
def Ce.bel (a i:Nat):Ce→Bool
 | .p x=>x.bel a
 | .o id q=>Nat.blt id i && pthBel a q
 | _=>true
def csBel (a i:Nat):List Ce→Bool
 | []=>true
 | c :: cs=>c.bel a i && csBel a i cs
def vsBel (a i:Nat):List (Bool × List Ce)→Bool
 | []=>true
 | v :: vs=>csBel a i v.2 && vsBel a i vs
def Pv.bel (a i:Nat):Pv→Bool
 | .z=>true
 | .w t x l=>Nat.blt t i && x.bel a && l.bel a
def SV.bel (a i:Nat):SV→Bool
 | .un=>true
 | .v _ cs=>csBel a i cs
 | .pt b _=>Nat.blt b i
 | .ep id q x _ _=>Nat.blt id i && pthBel a q && x.bel a
 | .fp s x _ _=>s.bel a && x.bel a
 | .tp vs=>vsBel a i vs
 | .cl _ bs=>bs.all fun b=>Nat.blt b i
 | .ob _ x=>x.bel a
 | .fz p x=>p.bel a i && x.bel a
 | .tk x m=>x.bel a && m.bel a
 | .fl x=>x.bel a
 | .fr x=>x.bel a
def renOf:Ren→Nat→Option (Option Nat)
 | [],_=>none
 | (j,x) :: rn,i=>bif Nat.beq j i then some x else renOf rn i
def renTo:Ren→Nat→Option Nat
 | [],_=>none
 | (j,some x) :: rn,i=>bif Nat.beq x i then some j else renTo rn i
 | (_,none) :: rn,i=>renTo rn i
def isAt (a0:Nat) (xs:List Lf) (n:Nat) (x:Lf):Bool :=
 Nat.ble a0 n && (match xs[n - a0]? with | some y=>y.beq x | none=>false)
def chkCe (s:St) (a0 i0:Nat) (xs:List Lf) (rn:Ren) (c h:Ce):Bool :=
 (h.beq c && h.bel a0 i0) ||
 match h,c with
 | .p (.a n),.p x=>isAt a0 xs n x
 | .p (.a n),.n=>isAt a0 xs n .e
 | .p (.a n),.o id []=>(match s.get (.o id) with | .fz _ x=>isAt a0 xs n x | _=>false)
 | .o j [],.n=>Nat.ble i0 j && (match renOf rn j with | some none=>true | _=>false)
 | .o j [],.o id []=>Nat.ble i0 j && (match renOf rn j with | some (some k)=>Nat.beq k id | _=>false)
 | .d,_=>true
 | _,_=>false
def chkCs (s:St) (a0 i0:Nat) (xs:List Lf) (rn:Ren):List Ce→List Ce→Bool
 | [],[]=>true
 | c :: cs,h :: hs=>chkCe s a0 i0 xs rn c h && chkCs s a0 i0 xs rn cs hs
 | _,_=>false
def chkNew (s:St) (a0 i0:Nat) (xs:List Lf) (rn:Ren):St→Bool
 | []=>true
 | (r,.v ag hs) :: ps =>
  (match r with | .o _=>false | .x b=>Nat.blt b i0 | .t _ _=>true) &&
  (match s.get r with | .v ag' cs=>(ag == ag') && chkCs s a0 i0 xs rn cs hs | _=>false) && chkNew s a0 i0 xs rn ps
 | _ :: _=>false
def chkOwn (s:St) (a0 i0:Nat) (xs:List Lf) (rn:Ren):St→Bool
 | []=>true
 | (.o j,.ob dp (.a n)) :: ps =>
  (match renOf rn j with
   | some (some id)=>Nat.ble i0 j && (match s.get (.o id) with | .ob dp' x=>(dp == dp') && isAt a0 xs n x | _=>false)
   | some none=>Nat.ble i0 j && isAt a0 xs n .e
   | none=>Nat.blt j i0 && (match renTo rn j with | none=>true | some _=>false) && (match s.get (.o j) with | .ob dp' x=>(dp == dp') && isAt a0 xs n x | _=>false)) &&
  chkOwn s a0 i0 xs rn ps
 | (.o j,.tk x (.a n)) :: ps =>
  (Nat.blt j i0 && (match renTo rn j with | none=>true | some _=>false) && x.bel a0 && (match s.get (.o j) with | .tk y m=>x.beq y && isAt a0 xs n m | _=>false)) &&
  chkOwn s a0 i0 xs rn ps
 | _ :: _=>false
def SV.isU:SV→Bool
 | .un=>true
 | _=>false
def keptR (i0:Nat) (rn:Ren):Res→Bool
 | .o id=>Nat.blt id i0 && (match renTo rn id with | none=>true | some _=>false)
 | .x b=>Nat.blt b i0
 | .t _ _=>true
def chkKept (s:St) (a0 i0:Nat) (rn:Ren):St→Bool
 | []=>true
 | (r,v) :: h=>(v.isU || (v.beq (s.get r) && v.bel a0 i0 && keptR i0 rn r)) && chkKept s a0 i0 rn h
def chkRen (i0 i1:Nat) (all:Ren):Ren→Bool
 | []=>true
 | (j,x) :: rn=>Nat.ble i0 j && Nat.blt j i1 && Nat.beq (j % 2) 0 && (match x with | none=>true | some id=>!Nat.beq (id % 4) 2 && (match renTo all id with | some k=>Nat.beq k j | none=>false)) && chkRen i0 i1 all rn
def chkHead (h:Head) (s:St) (xs:List Lf) (rn:Ren):Bool :=
 Nat.beq (h.c0.a+xs.length) h.ct.a && Nat.blt 0 h.ct.i && Nat.ble h.c0.i h.ct.i && chkRen h.c0.i h.ct.i rn rn && chkKept s h.c0.a h.c0.i rn h.kept && chkOwn s h.c0.a h.c0.i xs rn h.own && chkNew s h.c0.a h.c0.i xs rn h.new
def meet (d:Nat) (h:Head) (s:St):Option (List Lf) :=
 let s1:=doActs s (actNew d h.s0 s h.js)
 (meetNew d h.s0 s1 h.new h.js).bind fun (xs,rn)=>bif chkHead h s1 xs rn then some xs else none
abbrev KE:=Ex→KP
def noDeep (d:Nat):St→St
 | []=>[]
 | (.t e n,v) :: s=>bif Nat.ble d e then noDeep d s else (.t e n,v) :: noDeep d s
 | x :: s=>x :: noDeep d s
def thawAt (s:St) (cs:List Ce):List (Nat × Bool)→St
 | []=>s
 | (j,all) :: js =>
  match cs[j]? with
  | some (Ce.o id _)=>match s.get (.o id) with
   | .ob _ x=>thawAt (s.set (.o id) (bif all then .fz .z x else .ob false x)) cs js
   | _=>thawAt s cs js
  | _=>thawAt s cs js
def thawJs (d:Nat) (s:St):Js→St
 | []=>s
 | (n,bx,.rows js) :: l =>
  let cs:=svCs (s.get (jsRes d s n bx))
  thawJs d (thawAt s cs js) l
 | _ :: l=>thawJs d s l
def frzAt (s:St) (ct:Ct) (cs:List Ce):List (Nat × Bool)→St × Ct
 | []=>(s,ct)
 | (j,_) :: js =>
  match cs[j]? with
  | some (Ce.o id [])=>match s.get (.o id) with
   | .ob true x=>bif Nat.beq (id % 2) 0 then frzAt ((s.set (.o id) (.fz (.w (tkN ct.i) x (.k (.int .i64 0))) x)).set (.o (tkN ct.i)) (.tk x x)) ⟨ct.a,tkN ct.i+1⟩ cs js else frzAt s ct cs js
   | _=>frzAt s ct cs js
  | _=>frzAt s ct cs js
def frzJs (d:Nat) (s:St) (ct:Ct):Js→St × Ct
 | []=>(s,ct)
 | (n,bx,.rows js) :: l =>
  let r:=frzAt s ct (svCs (s.get (jsRes d s n bx))) js
  frzJs d r.1 r.2 l
 | _ :: l=>frzJs d s ct l
def goK (d:Nat) (h:Head) (lv tag:Nat):KP:=fun lv2 s' ct' fs' =>
 match meet d h s' with
 | some xs=>some (.go (lv2 - lv - 1) xs)
 | none=>some (.dbg tag [h.st,s'])
def joinE (d:Nat) (h:Head) (lv tag:Nat) (K:KE):KE:=fun e =>
 match e with
 | .normal=>goK d h lv tag
 | e=>K e
def blockE (id:Nat) (K:KE):KE:=fun e =>
 match e with
 | .exit i=>bif Nat.beq i id then K .normal else K (.exit i)
 | e=>K e
def finK (fid id:Nat) (ops:Array Oper) (draw:Bool) (k:KP):List Tr→KP:=fun tr lv s ct fs =>
 bif draw then
  bif okAll [] tr (befores [] ops.toList) && fwdOk 0 ops.toList then k lv s ct fs else some (.dbg (fid * 100000000+100000+id) [])
 else k lv s ct fs
def condK (tag:Nat) (v:SV) (cx cy:Facts→Option PL) (s:St) (fs:Facts):Option PL :=
 match decide1 fs v with
 | .is b=>bif b then cx fs else cy fs
 | .ask n=>(cx ((n,true) :: fs)).bind fun p=>(cy ((n,false) :: fs)).bind fun q=>some (.ite n p q)
 | .nil | .no=>some (.dbg tag [s])
def thaw4 (cx:Cx) (fid d id:Nat) (s:St):St:=match cx.hint fid 4 id with | none=>s | some js=>thawJs d s js
def frz5 (cx:Cx) (fid d id:Nat) (s:St) (ct:Ct):St × Ct:=match cx.hint fid 5 id with | none=>(s,ct) | some js=>frzJs d s ct js
def comp (cx:Cx) (into:Into) (fid d:Nat):Code→Nat→Nat→St→Ct→Facts→KE→Option PL
 | .skip,_,lv,s,ct,fs,K=>K .normal lv s ct fs
 | .label _,_,lv,s,ct,fs,K=>K .normal lv s ct fs
 | .seq a b,_,lv,s,ct,fs,K =>
  comp cx into fid d a 0 lv s ct fs fun e =>
   match e with
   | .normal=>fun lv s ct fs=>comp cx into fid d b 0 lv s ct fs K
   | e=>K e
 | .region id ops draw,_,lv,s0,ct0,fs,K =>
  let r5:=frz5 cx fid d id (thaw4 cx fid d id s0) ct0
  let s:=r5.1
  let ct:=r5.2
  match cx.hint fid 1 id with
  | none=>runOps cx into fid id d ops draw (finK fid id ops draw (K .normal)) ops.toList 0 [] lv s ct fs
  | some js =>
   let h:=mkHead d s ct js
   (K .normal lv h.st h.ct fs).bind fun k =>
    (runOps cx into fid id d ops draw (finK fid id ops draw (goK d h lv (fid * 100000000+200000+id))) ops.toList 0 [] (lv+1) s ct fs).bind fun b=>some (.join k b)
 | .cond c x y,_,lv,s,ct,fs,K =>
  let key:=match c with | .tmp t=>t | _=>0
  match cx.hint fid 2 key with
  | none=>condK (fid * 100000000+5000000+key) (opnd d s.get c) (fun fs=>comp cx into fid d x 0 lv s ct fs K) (fun fs=>comp cx into fid d y 0 lv s ct fs K) s fs
  | some js =>
   let h:=mkHead d s ct js
   (K .normal lv h.st h.ct fs).bind fun k =>
    (condK (fid * 100000000+5000000+key) (opnd d s.get c) (fun fs=>comp cx into fid d x 0 (lv+1) s ct fs (joinE d h lv (fid * 100000000+300000+key) K))
     (fun fs=>comp cx into fid d y 0 (lv+1) s ct fs (joinE d h lv (fid * 100000000+300000+key) K)) s fs).bind fun b=>some (.join k b)
 | .block id body,_,lv,s,ct,fs,K =>
  match cx.hint fid 3 id with
  | none=>comp cx into fid d body id lv s ct fs (blockE id K)
  | some js =>
   let h:=mkHead d s ct js
   (K .normal lv h.st h.ct fs).bind fun k =>
    (comp cx into fid d body id (lv+1) s ct fs (blockE id (joinE d h lv (fid * 100000000+400000+id) K))).bind fun b=>some (.join k b)
 | .loop body,blk,lv,s,ct,fs,K =>
  match cx.hint fid 0 blk with
  | none=>some (.dbg (fid * 100000000+500000+blk) [s])
  | some js =>
   let h:=mkHead d s ct js
   match meet d h s with
   | none=>some (.dbg (fid * 100000000+600000+blk) [h.st,s])
   | some xs=>(comp cx into fid d body 0 (lv+1) h.st h.ct fs (joinE d h lv (fid * 100000000+700000+blk) K)).bind fun b=>some (.loop xs b)
 | .exit id,_,lv,s,ct,fs,K=>K (.exit id) lv s ct fs
 | .ret,_,lv,s,ct,fs,K=>K .ret lv s ct fs
 | _,_,_,_,_,_,_=>some (.dbg (fid * 100000000+6000000) [])
def results (cx:Cx) (d:Nat) (s:St):List ResultVar→Option (List SV)
 | []=>some []
 | .tmp t :: rs=>(results cx d s rs).bind fun vs=>some (s.get (.t d t) :: vs)
 | .cell a t :: rs=>(cx.ty t).bind fun ti =>
  match s.get (.t d a) with
  | .pt bx off=>match s.get (.x bx) with
   | .v _ cs=>bif Nat.ble (off+ti.sz) cs.length then (results cx d s rs).bind fun vs=>some (.v ti.ag ((cs.drop off).take ti.sz) :: vs) else none
   | _=>none
  | _=>none
def setTmps (d:Nat) (s:St):Nat→List SV→St
 | _,[]=>s
 | i,v :: vs=>setTmps d (s.set (.t d i) v) (i+1) vs
def intoN (cx:Cx):Nat→Into
 | 0=>fun _ _ _ _ _ _ _ _=>none
 | n+1=>fun d g vs lv s ct fs k =>
  (cx.fn g).bind fun fn=>fn.body.bind fun c =>
   bif Nat.ble vs.length fn.ntmps && dstOk fn.ntmps c then
    comp cx (intoN cx n) g d c 0 lv (setTmps d (noDeep d s) 0 vs) ct fs fun e lv s ct fs =>
     match e with
     | .exit _=>none
     | _=>(results cx d s fn.results.toList).bind fun rs=>k rs lv (noDeep d s) ct fs
   else none
def outActs1:List Ce→List Ck→List (Nat × Bool)
 | .o id _ :: cs,.p :: ks=>(id,true) :: outActs1 cs ks
 | .o id _ :: cs,.o false :: ks=>(id,false) :: outActs1 cs ks
 | _ :: cs,_ :: ks=>outActs1 cs ks
 | _,_=>[]
def outActs:List SV→List (Bool × List Ck)→List (Nat × Bool)
 | v :: vs,r :: rs=>outActs1 (svCs v) r.2++outActs vs rs
 | _,_=>[]
def bxActs (s:St):Nat→List PS→List (Nat × Bool)
 | _,[]=>[]
 | i,.v _ _ :: ps=>bxActs s (i+1) ps
 | i,.x _ :: ps=>(idsCs0 (svCs (s.get (.x i)))).map (fun id=>(id,true))++bxActs s (i+1) ps
where
 idsCs0:List Ce→List Nat
  | []=>[]
  | .o id _ :: cs=>id :: idsCs0 cs
  | _ :: cs=>idsCs0 cs
def Wk.plain (k:Wk):Ce→Option Lf
 | .p x=>some x
 | .n=>some .e
 | .o id []=>match k.get (.o id) with
  | .fz _ x=>some x
  | _=>none
 | _=>none
def Wk.plains (k:Wk):List Ce→Option (List Lf)
 | []=>some []
 | c :: cs=>(k.plain c).bind fun x=>(Wk.plains k cs).bind fun xs=>some (x :: xs)
def outCs (k:Wk):List Ce→List Ck→Option (Wk × List Lf × List Nat)
 | [],[]=>some (k,[],[])
 | .o id [] :: cs,.o dp :: ks =>
  match k.get (.o id) with
  | .ob dp' x=>bif dp' == dp && !Nat.beq (id % 4) 2 then (outCs k cs ks).bind fun (k,xs,ids)=>some (k,x :: xs,id :: ids) else none
  | _=>none
 | .n :: cs,.o _ :: ks=>(outCs k cs ks).bind fun (k,xs,ids)=>some (k,.e :: xs,ids)
 | .p x :: cs,.s :: ks =>
  (outCs k cs ks).bind fun (k,xs,ids) =>
   let (k,y):=k.em .scl [x]
   some (k,y :: xs,ids)
 | c :: cs,.p :: ks=>(k.plain c).bind fun x=>(outCs k cs ks).bind fun (k,xs,ids)=>some (k,x :: xs,ids)
 | _,_=>none
def outVs (k:Wk):List SV→List (Bool × List Ck)→Option (Wk × List Lf × List Nat)
 | [],[]=>some (k,[],[])
 | .v ag cs :: vs,(ag',ks) :: rs=>bif ag == ag' then
   (outVs k vs rs).bind fun (k,ys,jds)=>(outCs k cs ks).bind fun (k,xs,ids)=>some (k,xs++ys,ids++jds)
  else none
 | _,_=>none
def outBx (k:Wk):Nat→List PS→Option (List Lf)
 | _,[]=>some []
 | i,.v _ _ :: ps=>outBx k (i+1) ps
 | i,.x n :: ps =>
  match k.get (.x i) with
  | .v _ cs=>bif Nat.beq cs.length n then (k.plains cs).bind fun xs=>(outBx k (i+1) ps).bind fun ys=>some (xs++ys) else none
  | _=>none
def iniPs:Nat→Nat→List PS→Nat × St
 | a,_,[]=>(a,[])
 | a,i,.v ag n :: ps =>
  let r:=iniPs (a+n) (i+1) ps
  (r.1,(.t 0 i,.v ag (atomsFrom a n)) :: r.2)
 | a,i,.x n :: ps =>
  let r:=iniPs (a+n) (i+1) ps
  (r.1,(.t 0 i,.pt i 0) :: (.x i,.v true (atomsFrom a n)) :: r.2)
def endK (cx:Cx) (fn:Func) (sg:Sig):KP:=fun lv s ct fs =>
 (results cx 0 s fn.results.toList).bind fun vs =>
  let s1:=doActs s (outActs vs sg.rs++bxActs s 0 sg.ps)
  match outVs ⟨s1,[],ct,[]⟩ vs sg.rs with
  | none=>some (.dbg 90 [s1,vs.map fun v=>(.x 0,v)])
  | some (k,xs,ids) =>
   match outBx k 0 sg.ps with
   | none=>some (.dbg 91 [s1])
   | some ys =>
    bif nodupN ids then
     bif Nat.beq k.ct.a (ct.a+isz k.is) && insOk k.ct.a k.is then some (wrap k.is (.ret (xs++ys))) else none
    else some (.dbg 92 [])
def sigOk (sg:Sig):Bool:=!(hasP sg && sg.rs.any fun r=>r.2.any fun | .o true=>true | _=>false)
def compFn (cx:Cx) (n fid:Nat) (fn:Func) (sg:Sig):Option PL :=
 fn.body.bind fun c =>
  let r:=iniPs 0 0 sg.ps
  bif dstOk fn.ntmps c && Nat.ble sg.ps.length fn.ntmps && sigOk sg then
   comp cx (intoN cx n) fid 0 c 0 0 r.2 ⟨r.1,sg.ps.length+1⟩ [] fun e =>
    match e with
    | .exit _=>fun _ _ _ _=>none
    | _=>endK cx fn sg
  else none
theorem Lf.beq_eq {x y:Lf} (h:x.beq y=true):x=y:=by
 cases x with
 | k v =>
  cases y with
  | k u =>
   cases v <;> cases u <;> simp_all [Lf.beq]
   exact ByteArray.ext h
  | a m=>simp [Lf.beq] at h
  | e=>simp [Lf.beq] at h
 | a n =>
  cases y with
  | a m=>simp [Lf.beq] at h;rw [h]
  | k u=>simp [Lf.beq] at h
  | e=>simp [Lf.beq] at h
 | e=>cases y <;> simp [Lf.beq] at h;rfl
inductive Lb where
 | f
 | x (b:Nat)
 | o (id:Nat) (p:List (Nat × Nat))
def Lb.id:Lb→Nat
 | .f=>0
 | .x b=>b
 | .o i _=>i
structure Gh where
 ω:Nat→Option Lb
 β:Nat→Nat
 H:Nat→List (Nat × Nat)→Value
 hs:∀ i p,∃ a n c,H i p=.slice a n c
def qt:Lb→Bool
 | .o i p=>Nat.beq (i % 4) 2 || (Nat.beq (i % 2) 0 && !p.isEmpty)
 | _=>false
def qf (ω:Nat→Option Lb):Nat→Option Lb:=fun b=>match ω b with
 | some l=>bif qt l then none else some l
 | none=>none
theorem qf_none {ω:Nat→Option Lb} {b:Nat} (h:ω b=none):qf ω b=none:=by simp [qf,h]
theorem qf_some {ω:Nat→Option Lb} {b:Nat} {l:Lb} (h:ω b=some l) (hq:qt l=false):qf ω b=some l:=by simp [qf,h,hq]
theorem qf_qt {ω:Nat→Option Lb} {b:Nat} {l:Lb} (h:ω b=some l) (hq:qt l=true):qf ω b=none:=by simp [qf,h,hq]
theorem qf_or {ω:Nat→Option Lb} {b:Nat} (h:qf ω b=none):ω b=none∨∃ l,ω b=some l∧qt l=true:=by
 unfold qf at h
 split at h
 ·rename_i l hl
  cases hq:qt l with
  | true=>exact .inr ⟨l,hl,hq⟩
  | false=>simp [hq] at h
 ·rename_i hl;exact .inl hl
theorem qf_lab {ω:Nat→Option Lb} {b:Nat} {l:Lb} (h:ω b=some l) (hq:qt l=false):qf ω b≠none:=by rw [qf_some h hq];simp
theorem qf_of {ω ω':Nat→Option Lb} {b:Nat} (h:qf ω b=none) (hn:ω b=none→ω' b=none) (hl:∀ l,ω b=some l→qt l=true→ω' b=none∨∃ l',ω' b=some l'∧qt l'=true):qf ω' b=none:=by
 rcases qf_or h with h0 | ⟨l,h1,h2⟩
 ·exact qf_none (hn h0)
 ·rcases hl l h1 h2 with h3 | ⟨l',h3,h4⟩
  ·exact qf_none h3
  ·exact qf_qt h3 h4
def Gh.q (G:Gh):Nat→Option Lb:=qf G.ω
theorem q_some {G:Gh} {b:Nat} {l:Lb} (h:G.q b=some l):G.ω b=some l:=by
 unfold Gh.q qf at h
 split at h
 ·rename_i l' hl
  cases hq:qt l' with
  | true=>simp [hq] at h
  | false=>simp [hq] at h;rw [hl,h]
 ·cases h
theorem Gh.q_same {G G':Gh} {b:Nat} (h:G'.ω b=G.ω b):G'.q b=G.q b:=by simp only [Gh.q,qf,h]
theorem qt_pth {ρ:List T} {id:Nat} {p:List (Nat × Nat)} (h:p=[]∨id % 2=1) (h2:id % 4≠2):qt (.o id p)=false:=by
 have e1:Nat.beq (id % 4) 2=false:=by
  cases hb:Nat.beq (id % 4) 2 with
  | false=>rfl
  | true=>exact absurd (Nat.eq_of_beq_eq_true hb) h2
 rcases h with rfl | h
 ·simp [qt,e1]
 ·have e2:Nat.beq (id % 2) 0=false:=by rw [h];rfl
  simp [qt,e1,e2]
theorem qt_top {id:Nat} (h2:id % 4≠2):qt (.o id [])=false:=qt_pth (ρ:=[]) (.inl rfl) h2
theorem qt_o {i:Nat} {p:List (Nat × Nat)} (hi:i % 2=0) (hp:p≠[]):qt (.o i p)=true:=by
 cases p with
 | nil=>exact absurd rfl hp
 | cons x p=>simp [qt,hi]
theorem qt_2 {i:Nat} {p:List (Nat × Nat)} (hi:i % 4=2):qt (.o i p)=true:=by simp [qt,hi]
def at2 (xs:List (List T)) (i j:Nat):Option T:=xs[i]?.bind (·[j]?)
inductive Den (ω:Nat→Option Lb) (w:World):T→Value→Prop
 | c {v:Value} (h:scV v=true):Den ω w (.c v) v
 | nil {a:Option Addr} {cap:Nat}:Den ω w (.l []) (.slice a 0 cap)
 | l {xs:List (List T)} {b off wd cap:Nat} {cv:Nat→Nat→Value} (hw:∀ r∈xs,r.length=wd) (hc:xs.length≤cap)
   (hb:ω b=none) (hlt:b < w.heap.size)
   (h1:∀ i j t,at2 xs i j=some t→w.cell? ⟨b,off+(i * wd+j),none⟩=some (cv i j))
   (h2:∀ i j t,at2 xs i j=some t→Den ω w t (cv i j)):Den ω w (.l xs) (.slice (some ⟨b,off,none⟩) xs.length cap)
inductive Own (G:Gh) (w:World) (id:Nat):Bool→List (Nat × Nat)→T→Prop
 | nil {dp:Bool} {p:List (Nat × Nat)} (hH:G.H id p=.slice none 0 0):Own G w id dp p (.l [])
 | l {dp:Bool} {p:List (Nat × Nat)} {xs:List (List T)} {b wd cap:Nat} {arr:Array Value} {elem:TypeId} {cv:Nat→Nat→Value}
   (hH:G.H id p=.slice (some ⟨b,0,none⟩) xs.length cap) (hc:xs.length≤cap∧(xs=[]→cap=0)) (hω:G.ω b=some (.o id p))
   (hh:w.heap[b]?=some (.cells arr elem (0,0))) (hs:arr.size=cap * wd) (hw:∀ r∈xs,r.length=wd)
   (h1:∀ i j t,at2 xs i j=some t→arr[i * wd+j]?=some (cv i j))
   (hv:∀ i j v,at2 xs i j=some (.c v)→cv i j=v∧scV v=true)
   (hp:∀ i j ys,at2 xs i j=some (.l ys)→dp=false→Den G.q w (.l ys) (cv i j))
   (hq:∀ i j ys,at2 xs i j=some (.l ys)→dp=true→cv i j=G.H id (p++[(i,j)]))
   (ho:∀ i j ys,at2 xs i j=some (.l ys)→dp=true→Own G w id true (p++[(i,j)]) (.l ys)):Own G w id dp p (.l xs)
def Lf.evo (ρ:List T):Lf→Option T
 | .k v=>bif scV v then some (.c v) else none
 | .a n=>ρ[n]?
 | .e=>some (.l [])
theorem Lf.evo_ev {ρ:List T} {x:Lf} {t:T} (h:x.evo ρ=some t):x.ev ρ=t:=by
 cases x with
 | k v=>simp only [Lf.evo] at h;cases hs:scV v <;> simp [hs] at h;simp [Lf.ev,h]
 | a n=>simp only [Lf.evo] at h;simp [Lf.ev,List.getD,h]
 | e=>simpa [Lf.evo,Lf.ev] using h
def stepI (ρ:List T) (x:Lf):Option Nat :=
 match x.evo ρ with
 | some (.c (.int _ n))=>if 0≤n then some n.toNat else none
 | _=>none
def pthO (ρ:List T):Pth→Option (List (Nat × Nat))
 | []=>some []
 | (x,_,j) :: q=>(stepI ρ x).bind fun i=>(pthO ρ q).bind fun p=>some ((i,j) :: p)
def pthI (ρ:List T) (id:Nat) (q:Pth):Option (List (Nat × Nat)) :=
 match q with
 | []=>some []
 | x :: q=>if id % 2=1 then pthO ρ (x :: q) else none
theorem pthI_nil {ρ:List T} {id:Nat}:pthI ρ id []=some []:=rfl
theorem pthI_O {ρ:List T} {id:Nat} {q:Pth} {p:List (Nat × Nat)} (h:pthI ρ id q=some p):pthO ρ q=some p:=by
 cases q with
 | nil=>exact h
 | cons x q =>
  simp only [pthI] at h
  split at h
  ·exact h
  ·cases h
theorem pthI_or {ρ:List T} {id:Nat} {q:Pth} {p:List (Nat × Nat)} (h:pthI ρ id q=some p):p=[]∨id % 2=1:=by
 cases q with
 | nil=>simp only [pthI,Option.some.injEq] at h;exact .inl h.symm
 | cons x q =>
  simp only [pthI] at h
  split at h
  ·exact .inr (by assumption)
  ·cases h
theorem pthI_of {ρ:List T} {id:Nat} {q:Pth} {p:List (Nat × Nat)} (h:pthO ρ q=some p) (hi:id % 2=1):pthI ρ id q=some p:=by
 cases q with
 | nil=>exact h
 | cons x q=>simp only [pthI,if_pos hi];exact h
def RelCe (G:Gh) (w:World) (ρ:List T):Ce→Value→Prop
 | .p x,c=>∃ t,x.evo ρ=some t∧Den G.q w t c
 | .o id q,c=>∃ p,pthI ρ id q=some p∧c=G.H id p
 | .n,c=>c=.slice none 0 0
 | .d,c=>c.oneCell'=true
def RelCs (G:Gh) (w:World) (ρ:List T):List Ce→List Value→Prop
 | [],[]=>True
 | c :: cs,v :: vs=>RelCe G w ρ c v∧RelCs G w ρ cs vs
 | _,_=>False
def RelVal (G:Gh) (w:World) (ρ:List T) (ag:Bool) (cs:List Ce) (c:Value):Prop :=
 match ag with
 | true=>∃ vs:List Value,c=.agg vs.toArray∧RelCs G w ρ cs vs
 | false=>∃ e,cs=[e]∧RelCe G w ρ e c∧∀ a,c≠.agg a
def RelTp (G:Gh) (w:World) (ρ:List T):List (Bool × List Ce)→List Value→Prop
 | [],[]=>True
 | c :: cs,v :: vs=>RelVal G w ρ c.1 c.2 v∧RelTp G w ρ cs vs
 | _,_=>False
def RelSV (G:Gh) (w:World) (ρ:List T):SV→Value→Prop
 | .un,_=>True
 | .v ag cs,c=>RelVal G w ρ ag cs c
 | .pt b off,c=>c=.pointer (some ⟨G.β b,off,none⟩)
 | .ep id q ix wd off,c=>∃ p b n cap i,pthI ρ id q=some p∧G.H id p=.slice (some ⟨b,0,none⟩) n cap∧stepI ρ ix=some i∧i < n ∧
   c=.pointer (some ⟨b,i * wd+off,none⟩)
 | .fp s ix wd off,c=>∃ xs i r b base,s.evo ρ=some (.l xs)∧stepI ρ ix=some i∧xs[i]?=some r∧c=.pointer (some ⟨b,base+off,none⟩) ∧
   (r.length=wd→G.q b=none∧b < w.heap.size∧∀ j t,r[j]?=some t→∃ u,w.cell? ⟨b,base+j,none⟩=some u∧Den G.q w t u)
 | .tp vs,c=>∃ us:List Value,c=.tuple us.toArray∧RelTp G w ρ vs us
 | .cl f bs,c=>c=.func (.func f) #[] (bs.map fun b=>Value.pointer (some ⟨G.β b,0,none⟩)).toArray
 | .ob _ _,_=>False
 | .fz _ _,_=>False
 | .tk _ _,_=>False
 | .fl _,_=>False
 | .fr _,_=>False
def RelBox (G:Gh) (w:World) (ρ:List T) (b:Nat):SV→Prop
 | .v _ cs=>G.ω (G.β b)=some (.x b)∧∃ arr elem,w.heap[G.β b]?=some (.cells arr elem (0,0))∧RelCs G w ρ cs arr.toList
 | .un=>True
 | _=>False
def HdrAt (w:World) (H:List (Nat × Nat)→Value) (n:Nat) (v:Value) (zs:List (List T)):Prop :=
 ∀ b off k c,v=.slice (some ⟨b,off,none⟩) k c→∃ wd,(∀ r∈zs,r.length=wd)∧∀ i j ys,at2 zs i j=some (.l ys)→w.cell? ⟨b,off+(i * wd+j),none⟩=some (H [(n+i,j)])
def RelPv (G:Gh) (w:World) (ρ:List T) (v:Value) (t:T):Pv→Prop
 | .z=>True
 | .w tk x lo=>tk % 4=2∧∃ F n zs,x.evo ρ=some (.l F)∧stepI ρ lo=some n∧t=.l zs∧(∀ i r,zs[i]?=some r→F[n+i]?=some r) ∧
   HdrAt w (G.H tk) n v zs∧(n=0→∀ b off k c,v=.slice (some ⟨b,off,none⟩) k c→off=0)
def RelObj (G:Gh) (w:World) (ρ:List T) (id:Nat):SV→Prop
 | .ob dp x=>∃ t,x.evo ρ=some t∧Own G w id dp [] t
 | .fz pv x=>∃ t,x.evo ρ=some t∧Den G.q w t (G.H id [])∧RelPv G w ρ (G.H id []) t pv
 | .tk x m=>id % 4=2∧∃ F u,x.evo ρ=some (.l F)∧m.evo ρ=some (.l u)∧u.length=F.length ∧
   ∀ i r,u[i]?=some r→r≠[]→F[i]?=some r∧∀ j ys,r[j]?=some (.l ys)→Own G w id true [(i,j)] (.l ys)
 | .fl x=>id % 4=2∧∃ t,x.evo ρ=some t∧Own G w id true [] t
 | .fr x=>id % 4=0∧∃ ys,x.evo ρ=some (.l ys)∧Den G.q w (.l ys) (G.H id [])∧HdrAt w (G.H id) 0 (G.H id []) ys ∧
   ∀ i j zs,at2 ys i j=some (.l zs)→Own G w id true [(i,j)] (.l zs)
 | .un=>True
 | _=>False
structure Keep (I:Lb→Prop) (N:Nat→Prop) (G:Gh) (w:World) (G':Gh) (w':World):Prop where
 size:w.heap.size≤w'.heap.size
 free:∀ b,b < w.heap.size→G.q b=none→G'.q b=none∧w'.heap[b]?=w.heap[b]?
 frs:∀ b,b < w.heap.size→G.ω b=none→G'.ω b=none
 own:∀ b l,G.ω b=some l→¬ I l→G'.ω b=some l∧w'.heap[b]?=w.heap[b]?
 nm:∀ i,¬ N i→G'.β i=G.β i∧∀ p,(p=[]∨i % 4≠0∨∀ r,¬ I (.o i r))→G'.H i p=G.H i p
theorem cell_of_block {w w':World} {b:Nat} (h:w'.heap[b]?=w.heap[b]?) (off:Nat):w'.cell? ⟨b,off,none⟩=w.cell? ⟨b,off,none⟩:=by
 simp only [World.cell?,h]
theorem Den.keep {ω ω':Nat→Option Lb} {w w':World} (hs:w.heap.size≤w'.heap.size)
  (hf:∀ b,b < w.heap.size→ω b=none→ω' b=none∧w'.heap[b]?=w.heap[b]?) {t:T} {c:Value} (h:Den ω w t c):Den ω' w' t c:=by
 induction h with
 | c h=>exact .c h
 | nil=>exact .nil
 | l hw hc hb hlt h1 h2 ih =>
  obtain ⟨hb',hh⟩:=hf _ hlt hb
  exact .l hw hc hb' (Nat.lt_of_lt_of_le hlt hs) (fun i j t ht=>by rw [cell_of_block hh];exact h1 i j t ht) ih
theorem Own.keep {I:Lb→Prop} {N:Nat→Prop} {G G':Gh} {w w':World} (k:Keep I N G w G' w') {id:Nat} (hi:∀ p,¬ I (.o id p)) (hn:¬ N id) {dp:Bool} {p:List (Nat × Nat)} {t:T}
  (h:Own G w id dp p t):Own G' w' id dp p t:=by
 have hH:G'.H id=G.H id:=funext fun p=>(k.nm id hn).2 p (.inr (.inr hi))
 induction h with
 | nil h=>exact .nil (by rw [hH];exact h)
 | l h1 h2 h3 h4 h5 h6 h7 h8 h9 h10 _ ih =>
  obtain ⟨ho,hh⟩:=k.own _ _ h3 (hi _)
  exact .l (by rw [hH];exact h1) h2 ho (hh.trans h4) h5 h6 h7 h8 (fun i j ys hy hd=>(h9 i j ys hy hd).keep k.size k.free)
   (fun i j ys hy hd=>by rw [hH];exact h10 i j ys hy hd) ih
def idsCs:List Ce→List Nat
 | []=>[]
 | .o id _ :: cs=>id :: idsCs cs
 | _ :: cs=>idsCs cs
def idsTp:List (Bool × List Ce)→List Nat
 | []=>[]
 | v :: vs=>idsCs v.2++idsTp vs
def idsSV:SV→List Nat
 | .v _ cs=>idsCs cs
 | .pt b _=>[b]
 | .ep id _ _ _ _=>[id]
 | .cl _ bs=>bs
 | .tp vs=>idsTp vs
 | .fz (.w tk _ _) _=>[tk]
 | _=>[]
theorem RelCe.keep {I:Lb→Prop} {N:Nat→Prop} {G G':Gh} {w w':World} (k:Keep I N G w G' w') {ρ:List T} {e:Ce} {c:Value} (hn:∀ i∈idsCs [e],¬ N i)
  (h:RelCe G w ρ e c):RelCe G' w' ρ e c:=by
 cases e with
 | p x=>obtain ⟨t,h1,h2⟩:=h;exact ⟨t,h1,h2.keep k.size k.free⟩
 | o id q=>obtain ⟨p,h1,h2⟩:=h;exact ⟨p,h1,by rw [(k.nm id (hn id (by simp [idsCs]))).2 p ((pthI_or h1).imp_right fun h=>.inl (by omega))];exact h2⟩
 | n=>exact h
 | d=>exact h
theorem idsCs_cons (e:Ce) (cs:List Ce):idsCs (e :: cs)=idsCs [e]++idsCs cs:=by
 cases e <;> simp [idsCs]
theorem RelCs.keep {I:Lb→Prop} {N:Nat→Prop} {G G':Gh} {w w':World} (k:Keep I N G w G' w') {ρ:List T}:∀ {cs:List Ce} {vs:List Value},(∀ i∈idsCs cs,¬ N i) →
  RelCs G w ρ cs vs→RelCs G' w' ρ cs vs
 | [],[],_,_=>trivial
 | [],_ :: _,_,h=>h.elim
 | _ :: _,[],_,h=>h.elim
 | e :: cs,v :: vs,hn,h=>by
  rw [idsCs_cons] at hn
  exact ⟨h.1.keep k (fun i hi=>hn i (List.mem_append_left _ hi)),RelCs.keep k (fun i hi=>hn i (List.mem_append_right _ hi)) h.2⟩
theorem RelVal.keep {I:Lb→Prop} {N:Nat→Prop} {G G':Gh} {w w':World} (k:Keep I N G w G' w') {ρ:List T} {ag:Bool} {cs:List Ce} {c:Value} (hn:∀ i∈idsCs cs,¬ N i)
  (h:RelVal G w ρ ag cs c):RelVal G' w' ρ ag cs c:=by
 cases ag with
 | true=>obtain ⟨vs,h1,h2⟩:=h;exact ⟨vs,h1,h2.keep k hn⟩
 | false=>obtain ⟨e,rfl,h2,h3⟩:=h;exact ⟨e,rfl,h2.keep k hn,h3⟩
theorem RelTp.keep {I:Lb→Prop} {N:Nat→Prop} {G G':Gh} {w w':World} (k:Keep I N G w G' w') {ρ:List T}:∀ {cs:List (Bool × List Ce)} {vs:List Value},(∀ i∈idsTp cs,¬ N i) →
  RelTp G w ρ cs vs→RelTp G' w' ρ cs vs
 | [],[],_,_=>trivial
 | [],_ :: _,_,h=>h.elim
 | _ :: _,[],_,h=>h.elim
 | e :: cs,v :: vs,hn,h=>⟨h.1.keep k (fun i hi=>hn i (by simp [idsTp,hi])),RelTp.keep k (fun i hi=>hn i (by simp [idsTp,hi])) h.2⟩
theorem RelSV.keep {I:Lb→Prop} {N:Nat→Prop} {G G':Gh} {w w':World} (k:Keep I N G w G' w') {ρ:List T} {v:SV} {c:Value} (hn:∀ i∈idsSV v,¬ N i)
  (h:RelSV G w ρ v c):RelSV G' w' ρ v c:=by
 cases v with
 | un=>trivial
 | v ag cs=>exact RelVal.keep k hn h
 | pt b off=>exact (by rw [RelSV,(k.nm b (hn b (by simp [idsSV]))).1];exact h)
 | ep id q ix wd off =>
  obtain ⟨p,b,n,cap,i,h1,h2,h3⟩:=h
  exact ⟨p,b,n,cap,i,h1,by rw [(k.nm id (hn id (by simp [idsSV]))).2 p ((pthI_or h1).imp_right fun h=>.inl (by omega))];exact h2,h3⟩
 | fp s ix wd off =>
  obtain ⟨xs,i,r,b,base,h1,h2,h3,h4,h5⟩:=h
  refine ⟨xs,i,r,b,base,h1,h2,h3,h4,fun hr=>?_⟩
  obtain ⟨h6,h7,h8⟩:=h5 hr
  obtain ⟨h9,h10⟩:=k.free _ h7 h6
  refine ⟨h9,Nat.lt_of_lt_of_le h7 k.size,fun j t ht=>?_⟩
  obtain ⟨u,hu,hd⟩:=h8 j t ht
  exact ⟨u,by rw [cell_of_block h10];exact hu,hd.keep k.size k.free⟩
 | tp vs=>obtain ⟨us,h1,h2⟩:=h;exact ⟨us,h1,h2.keep k hn⟩
 | cl f bs =>
  simp only [RelSV] at h ⊢
  rw [h]
  congr 2
  exact List.map_congr_left fun b hb=>by rw [(k.nm b (hn b (by simpa [idsSV] using hb))).1]
 | ob dp x=>exact h
 | fz pv x=>exact h
 | tk x m=>exact h
 | fl x=>exact h
 | fr x=>exact h
theorem RelBox.keep {I:Lb→Prop} {N:Nat→Prop} {G G':Gh} {w w':World} (k:Keep I N G w G' w') {ρ:List T} {b:Nat} {v:SV} (hi:¬ I (.x b)) (hb:¬ N b) (hn:∀ i∈idsSV v,¬ N i)
  (h:RelBox G w ρ b v):RelBox G' w' ρ b v:=by
 cases v with
 | v ag cs =>
  obtain ⟨h1,arr,elem,h2,h3⟩:=h
  obtain ⟨h4,h5⟩:=k.own _ _ h1 hi
  have hβ:=(k.nm b hb).1
  exact ⟨by rw [hβ];exact h4,arr,elem,by rw [hβ];exact h5.trans h2,h3.keep k hn⟩
 | un=>trivial
 | _=>exact h
theorem HdrAt.keep {ω:Nat→Option Lb} {w w':World} {H H':List (Nat × Nat)→Value} {n:Nat} {v:Value} {zs:List (List T)} (h:HdrAt w H n v zs) (hd:Den ω w (.l zs) v)
  (hf:∀ b,b < w.heap.size→ω b=none→w'.heap[b]?=w.heap[b]?) (hH:∀ p,p≠[]→H' p=H p):HdrAt w' H' n v zs:=by
 intro b off k c hv
 obtain ⟨wd,h1,h2⟩:=h b off k c hv
 refine ⟨wd,h1,fun i j ys hat=>?_⟩
 rw [hH _ (by simp),← h2 i j ys hat]
 subst hv
 generalize hv:Value.slice (some (⟨b,off,none⟩:Addr)) k c=v at hd
 cases hd with
 | nil=>simp [at2] at hat
 | l g1 g2 g3 g4 g5 g6=>cases hv;exact cell_of_block (hf _ g4 g3) _
theorem RelPv.keep {I:Lb→Prop} {N:Nat→Prop} {G G':Gh} {w w':World} (k:Keep I N G w G' w') {ρ:List T} {pv:Pv} {v:Value} {t:T} (hd:Den G.q w t v) (hn:∀ x i,i∈idsSV (.fz pv x)→¬ N i)
  (h:RelPv G w ρ v t pv):RelPv G' w' ρ v t pv:=by
 cases pv with
 | z=>trivial
 | w tk x lo =>
  obtain ⟨h0,F,n,zs,h1,h2,rfl,h3,h4,h5⟩:=h
  refine ⟨h0,F,n,zs,h1,h2,rfl,h3,h4.keep hd (fun b hb h=>(k.free b hb h).2) fun p _=>?_,h5⟩
  exact (k.nm tk (hn .e tk (by simp [idsSV]))).2 p (.inr (.inl (by omega)))
theorem RelObj.keep {I:Lb→Prop} {N:Nat→Prop} {G G':Gh} {w w':World} (k:Keep I N G w G' w') {ρ:List T} {id:Nat} {v:SV} (hi:∀ p,¬ I (.o id p)) (hb:¬ N id) (hn:∀ i∈idsSV v,¬ N i)
  (h:RelObj G w ρ id v):RelObj G' w' ρ id v:=by
 cases v with
 | ob dp x=>obtain ⟨t,h1,h2⟩:=h;exact ⟨t,h1,h2.keep k hi hb⟩
 | fz pv x =>
  obtain ⟨t,h1,h2,h3⟩:=h
  have e:=(k.nm id hb).2 [] (.inl rfl)
  exact ⟨t,h1,by rw [e];exact h2.keep k.size k.free,by rw [e];exact h3.keep k h2 (fun _ i hi=>hn i (by cases pv <;> exact hi))⟩
 | tk x m =>
  obtain ⟨h0,F,u,h1,h2,h3,h4⟩:=h
  exact ⟨h0,F,u,h1,h2,h3,fun i r hr hne=>⟨(h4 i r hr hne).1,fun j ys hy=>((h4 i r hr hne).2 j ys hy).keep k hi hb⟩⟩
 | fl x=>obtain ⟨h0,t,h1,h2⟩:=h;exact ⟨h0,t,h1,h2.keep k hi hb⟩
 | fr x =>
  obtain ⟨h0,ys,h1,h2,h3,h4⟩:=h
  have e:=fun p=>(k.nm id hb).2 p (.inr (.inr hi))
  refine ⟨h0,ys,h1,by rw [e];exact h2.keep k.size k.free,by rw [e];exact h3.keep h2 (fun b hb h=>(k.free b hb h).2) fun p _=>e p,fun i j zs hz=>(h4 i j zs hz).keep k hi hb⟩
 | un=>trivial
 | _=>exact h
theorem Keep.refl (G:Gh) (w:World):Keep (fun _=>False) (fun _=>False) G w G w :=
 ⟨Nat.le_refl _,fun _ _ h=>⟨h,rfl⟩,fun _ _ h=>h,fun _ _ h _=>⟨h,rfl⟩,fun _ _=>⟨rfl,fun _ _=>rfl⟩⟩
theorem Keep.mono {I I':Lb→Prop} {N N':Nat→Prop} {G G':Gh} {w w':World} (k:Keep I N G w G' w') (hI:∀ l,I l→I' l) (hN:∀ i,N i→N' i):Keep I' N' G w G' w' :=
 ⟨k.size,k.free,k.frs,fun b l hb hl=>k.own b l hb fun h=>hl (hI l h),fun i hi=>⟨(k.nm i fun h=>hi (hN i h)).1,fun p hp=>(k.nm i fun h=>hi (hN i h)).2 p (hp.imp_right fun h=>h.imp_right fun h r hr=>h r (hI _ hr))⟩⟩
theorem Keep.trans {I:Lb→Prop} {N:Nat→Prop} {G G' G'':Gh} {w w' w'':World} (k:Keep I N G w G' w') (k':Keep I N G' w' G'' w''):Keep I N G w G'' w'':=by
 refine ⟨Nat.le_trans k.size k'.size,fun b hb h0=>?_,fun b hb h0=>k'.frs b (Nat.lt_of_lt_of_le hb k.size) (k.frs b hb h0),fun b l hb hl=>?_,fun i hi=>?_⟩
 ·obtain ⟨h1,h2⟩:=k.free b hb h0
  obtain ⟨h3,h4⟩:=k'.free b (Nat.lt_of_lt_of_le hb k.size) h1
  exact ⟨h3,h4.trans h2⟩
 ·obtain ⟨h1,h2⟩:=k.own b l hb hl
  obtain ⟨h3,h4⟩:=k'.own b l h1 hl
  exact ⟨h3,h4.trans h2⟩
 ·exact ⟨(k'.nm i hi).1.trans (k.nm i hi).1,fun p hp=>((k'.nm i hi).2 p hp).trans ((k.nm i hi).2 p hp)⟩
theorem St.look_get (s:St) (r:Res):s.get r=(s.look r).getD .un:=by
 induction s with
 | nil=>rfl
 | cons x s ih =>
  obtain ⟨r',v⟩:=x
  cases h:r'.beq r <;> simp [St.get,St.look,h,ih]
theorem St.get_sets (s W:St) (r:Res):(s.sets W).get r=(W.look r).getD (s.get r):=by
 induction W with
 | nil=>rfl
 | cons x W ih =>
  obtain ⟨r',v⟩:=x
  cases h:r'.beq r with
  | true =>
   have:=Res.beq_iff.1 h
   subst this
   simp [St.sets,St.get_set_self,St.look,h]
  | false =>
   have hne:r'≠r:=fun e=>by simp [Res.beq_iff.2 e] at h
   simp [St.sets,St.get_set_ne _ _ hne,St.look,h,ih]
theorem St.look_set_self (s:St) (r:Res) (v:SV):(s.set r v).look r=some v:=by
 induction s with
 | nil=>simp [St.set,St.look,(Res.beq_iff).2 rfl]
 | cons x s ih =>
  obtain ⟨r',v'⟩:=x
  cases h:r'.beq r with
  | true=>simp [St.set,St.look,h,(Res.beq_iff).2 rfl]
  | false=>simp [St.set,St.look,h,ih]
theorem St.look_set_ne (s:St) {r r':Res} (v:SV) (h:r≠r'):(s.set r v).look r'=s.look r':=by
 have hb:r.beq r'=false:=by
  cases hh:r.beq r' with
  | false=>rfl
  | true=>exact absurd (Res.beq_iff.1 hh) h
 induction s with
 | nil=>simp [St.set,St.look,hb]
 | cons x s ih =>
  obtain ⟨r2,v2⟩:=x
  cases h2:r2.beq r with
  | true =>
   have:=Res.beq_iff.1 h2
   subst this
   simp [St.set,St.look,h2,hb]
  | false =>
   cases h3:r2.beq r' with
   | true=>simp [St.set,St.look,h2,h3]
   | false=>simp [St.set,St.look,h2,h3,ih]
theorem St.get_only (s:St) (R:List Res) {r:Res} (h:r∈R):(s.only R).get r=s.get r:=by
 induction R with
 | nil=>cases h
 | cons x R ih =>
  simp only [St.only,St.get]
  cases hb:x.beq r with
  | true=>have:=Res.beq_iff.1 hb;subst this;rfl
  | false =>
   refine ih ?_
   cases h with
   | head=>simp [Res.beq_iff.2 rfl] at hb
   | tail _ h=>exact h
theorem St.get_only_not (s:St) (R:List Res) {r:Res} (h:r ∉ R):(s.only R).get r=.un:=by
 induction R with
 | nil=>rfl
 | cons x R ih =>
  simp only [St.only,St.get]
  have hb:x.beq r=false:=by
   cases hb:x.beq r with
   | false=>rfl
   | true=>exact absurd (Res.beq_iff.1 hb ▸ List.mem_cons_self) h
  rw [hb]
  exact ih fun hm=>h (List.mem_cons_of_mem _ hm)
structure Base where
 w0:World
 ω0:Nat→Option Lb
 bt:Nat→Option Nat
def globs:List (Nat × List Value):=[(0,Go.Lib.pow10Tab.map (Value.int .u64))]
def GlobOk (ω:Nat→Option Lb) (w:World):Prop:=∀ x∈globs,x.1 < w.heap.size∧ω x.1=none∧∃ e z,w.heap[x.1]?=some (.cells x.2.toArray e z)
structure BaseOk (B:Base) (G:Gh) (w:World):Prop where
 os:w.os=B.w0.os
 tape:w.tape=B.w0.tape
 output:w.output=B.w0.output
 size:B.w0.heap.size≤w.heap.size
 free:∀ b,b < B.w0.heap.size→B.ω0 b=none→G.ω b=none∧w.heap[b]?=B.w0.heap[b]?
 frn:∀ b,B.ω0 b=some .f→G.ω b=some .f∧w.heap[b]?=B.w0.heap[b]?
 gl:GlobOk B.ω0 B.w0
theorem BaseOk.glob {B:Base} {G:Gh} {w:World} (h:BaseOk B G w):GlobOk G.ω w:=fun x hx=>by
 obtain ⟨h1,h2,e,z,h3⟩:=h.gl x hx
 obtain ⟨h4,h5⟩:=h.free x.1 h1 h2
 exact ⟨Nat.lt_of_lt_of_le h1 h.size,h4,e,z,h5.trans h3⟩
def tmv (up:Nat→Nat→Value) (d:Nat) (a:Act) (e n:Nat):Value:=if e=d then a.tmps.getD n undef else up e n
structure Rel (M:Nat→Prop) (B:Base) (d:Nat) (up:Nat→Nat→Value) (s:St) (ρ:List T) (G:Gh) (a:Act) (w:World):Prop where
 tm:∀ e n,e≤d→RelSV G w ρ (s.get (.t e n)) (tmv up d a e n)
 bx:∀ b,RelBox G w ρ b (s.get (.x b))
 ob:∀ i,RelObj G w ρ i (s.get (.o i))
 ment:∀ r,∀ i∈idsSV (s.get r),M i
 key:∀ i,(s.get (.x i)≠.un∨s.get (.o i)≠.un)→M i
 lab:∀ b l,G.ω b=some l→M l.id∧b < w.heap.size
 dn:a.defers=[]
 base:BaseOk B G w
 bt:∀ i b,B.bt i=some b→M i∧G.β i=b
theorem put_tmv {up:Nat→Nat→Value} {d:Nat} {a:Act} {dst:Option Nat} {v:Value} {e n:Nat} (h:¬ (e=d∧dst=some n)) :
  tmv up d (a.put dst v) e n=tmv up d a e n:=by
 unfold tmv
 split
 ·rename_i he
  cases dst with
  | none=>rfl
  | some m =>
   have hne:m≠n:=fun hm=>h ⟨he,by rw [hm]⟩
   simp [Act.put,Array.getD_eq_getD_getElem?,Array.getElem?_setIfInBounds_ne hne]
 ·rfl
theorem put_tmv_self {up:Nat→Nat→Value} {d:Nat} {a:Act} {v:Value} {n:Nat} (h:n < a.tmps.size):tmv up d (a.put (some n) v) d n=v:=by
 simp [tmv,Act.put,Array.getD_eq_getD_getElem?,h]
theorem Rel.mono {M M':Nat→Prop} {B:Base} {d:Nat} {up:Nat→Nat→Value} {s:St} {ρ:List T} {G:Gh} {a:Act} {w:World} (h:Rel M B d up s ρ G a w)
  (hM:∀ i,M i→M' i):Rel M' B d up s ρ G a w :=
 ⟨h.tm,h.bx,h.ob,fun r i hi=>hM i (h.ment r i hi),fun i hi=>hM i (h.key i hi),fun b l hl=>⟨hM _ (h.lab b l hl).1,(h.lab b l hl).2⟩,h.dn,h.base,fun i b hb=>⟨hM i (h.bt i b hb).1,(h.bt i b hb).2⟩⟩
def keysOf (W:St):Lb→Prop
 | .f=>False
 | .x b=>W.look (.x b)≠none
 | .o i _=>W.look (.o i)≠none
theorem Rel.glue {M M':Nat→Prop} {B:Base} {d:Nat} {up:Nat→Nat→Value} {s s':St} {ρ:List T} {G:Gh} {a:Act} {w:World} (h:Rel M B d up s ρ G a w)
  {N:Nat→Prop} {G':Gh} {w':World} {W:St} (k:Keep (keysOf W) N G w G' w') {dst:Option Nat} {v:Value}
  (hN:∀ i,N i→¬ M i) (hM:∀ i,M i→M' i)
  (hd:∀ n,dst=some n→W.look (.t d n)≠none)
  (hr:Rel M' B d up (s'.sets W) ρ G' (a.put dst v) w'):Rel M' B d up (s.sets W) ρ G' (a.put dst v) w':=by
 have hw:∀ r u,W.look r=some u→(s'.sets W).get r=u:=fun r u hu=>by rw [St.get_sets,hu];rfl
 refine ⟨?_,?_,?_,?_,?_,hr.lab,hr.dn,hr.base,hr.bt⟩
 ·intro e n he
  rw [St.get_sets]
  cases hl:W.look (.t e n) with
  | some u=>have:=hr.tm e n he;rw [hw _ _ hl] at this;exact this
  | none =>
   rw [put_tmv fun ⟨h1,h2⟩=>hd n h2 (h1 ▸ hl)]
   exact (h.tm e n he).keep k fun i hi hn=>hN i hn (h.ment _ i hi)
 ·intro b
  rw [St.get_sets]
  cases hl:W.look (.x b) with
  | some u=>have:=hr.bx b;rw [hw _ _ hl] at this;exact this
  | none =>
   by_cases hu:s.get (.x b)=.un
   ·simp only [Option.getD_none,hu];trivial
   ·exact (h.bx b).keep k (fun hk=>hk hl) (fun hn=>hN b hn (h.key b (.inl hu))) fun i hi hn=>hN i hn (h.ment _ i hi)
 ·intro i
  rw [St.get_sets]
  cases hl:W.look (.o i) with
  | some u=>have:=hr.ob i;rw [hw _ _ hl] at this;exact this
  | none =>
   by_cases hu:s.get (.o i)=.un
   ·simp only [Option.getD_none,hu];trivial
   ·exact (h.ob i).keep k (fun p hk=>hk hl) (fun hn=>hN i hn (h.key i (.inr hu))) fun j hj hn=>hN j hn (h.ment _ j hj)
 ·intro r i hi
  rw [St.get_sets] at hi
  cases hl:W.look r with
  | some u=>rw [hl] at hi;refine hr.ment r i ?_;rw [hw _ _ hl];exact hi
  | none=>rw [hl] at hi;exact hM i (h.ment r i hi)
 ·intro i hi
  rw [St.get_sets,St.get_sets] at hi
  rcases hi with hi | hi
  ·cases hl:W.look (.x i) with
   | some u=>rw [hl] at hi;exact hr.key i (.inl (by rw [hw _ _ hl];exact hi))
   | none=>rw [hl] at hi;exact hM i (h.key i (.inl hi))
  ·cases hl:W.look (.o i) with
   | some u=>rw [hl] at hi;exact hr.key i (.inr (by rw [hw _ _ hl];exact hi))
   | none=>rw [hl] at hi;exact hM i (h.key i (.inr hi))
theorem Rel.put1 {M:Nat→Prop} {B:Base} {d:Nat} {up:Nat→Nat→Value} {s:St} {ρ:List T} {G:Gh} {a:Act} {w:World} (h:Rel M B d up s ρ G a w)
  {n:Nat} {x:SV} {v:Value} (hn:n < a.tmps.size) (hr:RelSV G w ρ x v) (hm:∀ i∈idsSV x,M i) :
  Rel M B d up (s.set (.t d n) x) ρ G (a.put (some n) v) w:=by
 have hg:∀ r,r≠.t d n→(s.set (.t d n) x).get r=s.get r:=fun r hr=>St.get_set_ne _ _ (Ne.symm hr)
 refine ⟨fun e m he=>?_,fun b=>?_,fun i=>?_,fun r i hi=>?_,fun i hi=>?_,h.lab,h.dn,h.base,h.bt⟩
 ·by_cases hr':(Res.t e m)=.t d n
  ·cases hr';rw [St.get_set_self,put_tmv_self hn];exact hr
  ·rw [hg _ hr',put_tmv fun ⟨h1,h2⟩=>hr' (by cases h1;cases h2;rfl)];exact h.tm e m he
 ·rw [hg _ (by simp)];exact h.bx b
 ·rw [hg _ (by simp)];exact h.ob i
 ·by_cases hr':r=.t d n
  ·subst hr';rw [St.get_set_self] at hi;exact hm i hi
  ·rw [hg _ hr'] at hi;exact h.ment r i hi
 ·rw [hg _ (by simp),hg _ (by simp)] at hi;exact h.key i hi
def Done (S:Nat→Sem1) (ρ:List T):Nat→List Ins→Prop
 | _,[]=>True
 | e,.pr p xs :: is=>∃ n t,e=n+1∧p.ev (xs.map (Lf.ev ρ))=some t∧ρ[n]?=some t∧Done S ρ n is
 | e,.cl g xs m :: is=>∃ n ts,e=n+m∧S g (xs.map (Lf.ev ρ))=some ts∧(∀ i,i < m→ρ[n+i]?=some (ts.getD i T.dft))∧Done S ρ n is
def Wk.Done (S:Nat→Sem1) (ρ:List T) (k:Wk):Prop:=Go.Proofs.YtbhplkilhknciaaDoorC.Done S ρ k.ct.a k.is
structure Wk.Same (k k':Wk):Prop where
 r:k'.r=k.r
 w:k'.w=k.w
 i:k'.ct.i=k.ct.i
theorem Wk.Same.refl (k:Wk):k.Same k:=⟨rfl,rfl,rfl⟩
theorem Wk.Same.trans {a b c:Wk} (h:a.Same b) (h':b.Same c):a.Same c:=⟨h'.r.trans h.r,h'.w.trans h.w,h'.i.trans h.i⟩
theorem Wk.Same.get {k k':Wk} (h:k.Same k') (r:Res):k'.get r=k.get r:=by simp [Wk.get,h.r,h.w]
section
variable {S:Nat→Sem1} {ρ:List T}
theorem Wk.em_same (k:Wk) (p:Prim) (xs:List Lf):k.Same (k.em p xs).1:=⟨rfl,rfl,rfl⟩
theorem Wk.em_done {k:Wk} {p:Prim} {xs:List Lf} (h:(k.em p xs).1.Done S ρ) :
  k.Done S ρ∧∃ t,p.ev (xs.map (Lf.ev ρ))=some t∧(k.em p xs).2.evo ρ=some t:=by
 obtain ⟨n,t,h1,h2,h3,h4⟩:=h
 have:n=k.ct.a:=by simp [Wk.em] at h1;omega
 subst this
 exact ⟨h4,t,h2,h3⟩
def digp:List (Nat × Nat)→T→Option T
 | [],t=>some t
 | (i,j) :: p,.l xs=>(at2 xs i j).bind (digp p)
 | _,_=>none
theorem stepI_ev {x:Lf} {i:Nat} (h:stepI ρ x=some i):∃ k,(x.ev ρ)=.c (.int k i):=by
 unfold stepI at h
 split at h
 ·rename_i k n hx
  split at h
  ·rename_i h0
   cases h
   exact ⟨k,by rw [Lf.evo_ev hx];congr 2;exact (Int.toNat_of_nonneg h0).symm⟩
  ·cases h
 ·cases h
theorem rowAt_int {xs:List (List T)} {k:IntKind} {i:Nat}:rowAt (.l xs) (.c (.int k (i:Int)))=xs[i]?:=by
 simp [rowAt,T.rows,T.int]
theorem dig_ev {x ix:Lf} {w j i:Nat} {xs:List (List T)} {t:T} (hx:x.evo ρ=some (.l xs)) (hi:stepI ρ ix=some i)
  (h:Prim.ev (.dig w j) [x.ev ρ,ix.ev ρ]=some t):∃ ys,t=.l ys∧at2 xs i j=some (.l ys)∧∃ r,xs[i]?=some r∧r.length=w:=by
 obtain ⟨k,hk⟩:=stepI_ev hi
 rw [Lf.evo_ev hx,hk] at h
 simp only [Prim.ev,rowAt_int] at h
 cases hr:xs[i]? with
 | none=>simp [hr] at h
 | some r =>
  simp only [hr,Option.bind_some] at h
  split at h
  ·rename_i hl
   cases hj:r[j]? with
   | none=>simp [hj] at h
   | some u =>
    cases u with
    | c v=>simp [hj,T.rows] at h
    | l ys =>
     simp [hj,T.rows] at h
     exact ⟨ys,h.symm,by simp [at2,hr,hj],r,rfl,hl⟩
  ·cases h
theorem Wk.down_same:∀ (q:Pth) (k:Wk) (x:Lf),k.Same (k.down x q).1
 | [],k,x=>.refl k
 | (ix,w,j) :: q,k,x=>by
  simp only [Wk.down]
  exact (Wk.em_same k _ _).trans (Wk.down_same q _ _)
theorem Wk.down_pre:∀ (q:Pth) (k:Wk) (x:Lf),(k.down x q).1.Done S ρ→k.Done S ρ
 | [],_,_,h=>h
 | (ix,w,j) :: q,k,x,h=>(Wk.em_done (Wk.down_pre q _ _ h)).1
theorem Wk.down_done:∀ (q:Pth) (k:Wk) (x:Lf) {t:T} {p:List (Nat × Nat)},(k.down x q).1.Done S ρ→x.evo ρ=some t→pthO ρ q=some p →
  (q=[]∨∃ xs,t=.l xs)→∃ u,digp p t=some u∧(k.down x q).2.evo ρ=some u∧(q=[]∨∃ ys,u=.l ys)
 | [],k,x,t,p,h,hx,hp,_=>by
  simp only [pthO] at hp
  cases hp
  exact ⟨t,rfl,hx,.inl rfl⟩
 | (ix,w,j) :: q,k,x,t,p,h,hx,hp,ht=>by
  simp only [Wk.down] at h ⊢
  obtain ⟨xs,rfl⟩:=ht.resolve_left (by simp)
  simp only [pthO] at hp
  cases hi:stepI ρ ix with
  | none=>simp [hi] at hp
  | some i =>
   cases hq:pthO ρ q with
   | none=>simp [hi,hq] at hp
   | some p' =>
    simp [hi,hq] at hp
    subst hp
    obtain ⟨_,u,hu,huv⟩:=Wk.em_done (Wk.down_pre q _ _ h)
    obtain ⟨ys,rfl,hat,_⟩:=dig_ev hx hi hu
    obtain ⟨v,hv,hvv,hl⟩:=Wk.down_done q _ _ h huv hq (.inr ⟨ys,rfl⟩)
    refine ⟨v,by simp [digp,hat,hv],hvv,.inr ?_⟩
    rcases hl with rfl | hl
    ·simp only [pthO] at hq
     cases hq
     simp [digp] at hv
     exact ⟨ys,hv.symm⟩
    ·exact hl
def er (ω:Nat→Option Lb):Nat→Option Lb:=fun b=>match ω b with
 | some (.x i)=>some (.x i)
 | some .f=>some .f
 | _=>none
theorem er_none {ω:Nat→Option Lb} {b:Nat} (h:ω b=none):er ω b=none:=by simp [er,h]
theorem er_q {G:Gh} {b:Nat} (h:G.q b=none):er G.ω b=none:=by
 rcases qf_or h with h0 | ⟨l,h1,h2⟩
 ·exact er_none h0
 ·cases l with
  | o i p=>simp [er,h1]
  | _=>simp [qt] at h2
theorem Den.er {G:Gh} {w:World} {t:T} {c:Value} (h:Den G.q w t c):Den (er G.ω) w t c :=
 by
 induction h with
 | c h=>exact .c h
 | nil=>exact .nil
 | l hw hc hb hlt h1 h2 ih=>exact .l hw hc (er_q hb) hlt h1 ih
theorem cell_row {w:World} {b:Nat} {arr:Array Value} {elem:TypeId} {fz:Nat × Nat} (h:w.heap[b]?=some (.cells arr elem fz)) (off:Nat) :
  w.cell? ⟨b,off,none⟩=arr[off]?:=by
 simp [World.cell?,h]
theorem lt_of_heap {w:World} {b:Nat} {o:Obj} (h:w.heap[b]?=some o):b < w.heap.size:=(Array.getElem?_eq_some_iff.1 h).1
theorem at2_row {xs:List (List T)} {i j:Nat} {t:T} (h:at2 xs i j=some t):∃ r,xs[i]?=some r∧r∈xs∧r[j]?=some t∧i < xs.length∧j < r.length:=by
 unfold at2 at h
 cases hr:xs[i]? with
 | none=>simp [hr] at h
 | some r =>
  simp [hr] at h
  exact ⟨r,rfl,List.mem_of_getElem? hr,h,(List.getElem?_eq_some_iff.1 hr).1,(List.getElem?_eq_some_iff.1 h).1⟩
theorem Own.den {G:Gh} {w:World} {id:Nat} {dp:Bool} {p:List (Nat × Nat)} {t:T} (h:Own G w id dp p t):Den (er G.ω) w t (G.H id p):=by
 induction h with
 | nil h=>rw [h];exact .nil
 | @l dp p xs b wd cap arr elem cv h1 h2 h3 h4 h5 h6 h7 h8 h9 h10 _ ih =>
  rw [h1]
  refine .l (cv:=cv) h6 h2.1 (by simp [er,h3]) (lt_of_heap h4) (fun i j t ht=>?_) fun i j t ht=>?_
  ·rw [cell_row h4,Nat.zero_add];exact h7 i j t ht
  ·cases t with
   | c v=>obtain ⟨hv,hs⟩:=h8 i j v ht;rw [hv];exact .c hs
   | l ys =>
    cases hd:dp with
    | false=>exact (h9 i j ys ht hd).er
    | true=>rw [h10 i j ys ht hd];exact ih i j ys ht hd
theorem Own.denq {G:Gh} {w:World} {id:Nat} {dp:Bool} {p:List (Nat × Nat)} {t:T} (h:Own G w id dp p t) (hi:id % 4=2∨(id % 2=0∧p≠[])) (hdp:dp=true):Den G.q w t (G.H id p):=by
 induction h with
 | nil h=>rw [h];exact .nil
 | @l dp p xs b wd cap arr elem cv h1 h2 h3 h4 h5 h6 h7 h8 h9 h10 h11 ih =>
  rw [h1]
  refine .l (cv:=cv) h6 h2.1 (qf_qt h3 (hi.elim qt_2 fun h=>qt_o h.1 h.2)) (lt_of_heap h4) (fun i j t ht=>?_) fun i j t ht=>?_
  ·rw [cell_row h4,Nat.zero_add];exact h7 i j t ht
  ·cases t with
   | c v=>obtain ⟨hv,hs⟩:=h8 i j v ht;rw [hv];exact .c hs
   | l ys=>rw [h10 i j ys ht hdp];exact ih i j ys ht hdp (hi.imp_right fun h=>⟨h.1,by simp⟩) rfl
theorem Own.dig {G:Gh} {w:World} {id:Nat}:∀ (q:List (Nat × Nat)) {p:List (Nat × Nat)} {t u:T},Own G w id true p t→digp q t=some u→(∃ ys,u=.l ys) →
  Own G w id true (p++q) u
 | [],p,t,u,h,hd,_=>by simp only [digp] at hd;cases hd;simpa using h
 | (i,j) :: q,p,t,u,h,hd,hu=>by
  cases h with
  | nil=>simp [digp,at2] at hd
  | @l _ _ xs b wd cap arr elem cv h1 h2 h3 h4 h5 h6 h7 h8 h9 h10 h11 =>
   simp only [digp] at hd
   cases ha:at2 xs i j with
   | none=>simp [ha] at hd
   | some v =>
    simp only [ha,Option.bind_some] at hd
    cases v with
    | c v =>
     cases q with
     | nil=>simp [digp] at hd;obtain ⟨ys,rfl⟩:=hu;cases hd
     | cons a q=>simp [digp] at hd
    | l ys =>
     have:=Own.dig q (h11 i j ys ha rfl) hd hu
     simpa using this
theorem Wk.val_same {k k':Wk} {c:Ce} {x:Lf} (h:k.val c=some (k',x)):k.Same k':=by
 cases c with
 | p y=>simp [Wk.val] at h;obtain ⟨rfl,_⟩:=h;exact .refl _
 | n=>simp [Wk.val] at h;obtain ⟨rfl,_⟩:=h;exact .refl _
 | d=>simp [Wk.val] at h
 | o id q =>
  simp only [Wk.val] at h
  split at h
  ·simp only [Option.some.injEq] at h
   have e1:=congrArg Prod.fst h
   simp only at e1
   subst e1
   exact Wk.down_same q k _
  ·split at h
   ·simp at h;obtain ⟨rfl,_⟩:=h;exact .refl _
   ·cases h
  ·split at h
   ·simp at h;obtain ⟨rfl,_⟩:=h;exact .refl _
   ·cases h
  ·split at h
   ·simp at h;obtain ⟨rfl,_⟩:=h;exact .refl _
   ·cases h
  ·cases h
theorem Wk.val_pre {k k':Wk} {c:Ce} {x:Lf} (h:k.val c=some (k',x)) (hd:k'.Done S ρ):k.Done S ρ:=by
 cases c with
 | p y=>simp [Wk.val] at h;obtain ⟨rfl,_⟩:=h;exact hd
 | n=>simp [Wk.val] at h;obtain ⟨rfl,_⟩:=h;exact hd
 | d=>simp [Wk.val] at h
 | o id q =>
  simp only [Wk.val] at h
  split at h
  ·simp only [Option.some.injEq] at h
   have e1:=congrArg Prod.fst h
   simp only at e1
   subst e1
   exact Wk.down_pre q _ _ hd
  ·split at h
   ·simp at h;obtain ⟨rfl,_⟩:=h;exact hd
   ·cases h
  ·split at h
   ·simp at h;obtain ⟨rfl,_⟩:=h;exact hd
   ·cases h
  ·split at h
   ·simp at h;obtain ⟨rfl,_⟩:=h;exact hd
   ·cases h
  ·cases h
theorem Wk.val_done {k k':Wk} {c:Ce} {x:Lf} {G:Gh} {w:World} {v:Value} (h:k.val c=some (k',x)) (hd:k'.Done S ρ)
  (hr:RelCe G w ρ c v) (ho:∀ id,id∈idsCs [c]→RelObj G w ρ id (k.get (.o id))):∃ t,x.evo ρ=some t∧Den (er G.ω) w t v:=by
 cases c with
 | p y=>simp [Wk.val] at h;obtain ⟨_,rfl⟩:=h;obtain ⟨t,h1,h2⟩:=hr;exact ⟨t,h1,h2.er⟩
 | n=>simp [Wk.val] at h;obtain ⟨_,rfl⟩:=h;cases hr;exact ⟨_,rfl,.nil⟩
 | d=>simp [Wk.val] at h
 | o id q =>
  have hob:=ho id (by simp [idsCs])
  obtain ⟨p,hp,rfl⟩:=hr
  simp only [Wk.val] at h
  split at h
  ·rename_i y hk
   simp only [hk,RelObj] at hob
   obtain ⟨t,ht,hown⟩:=hob
   simp only [Option.some.injEq] at h
   have e1:=congrArg Prod.fst h
   have e2:=congrArg Prod.snd h
   simp only at e1 e2
   subst e1 e2
   have hl:∃ ys,t=.l ys:=by cases hown <;> exact ⟨_,rfl⟩
   obtain ⟨u,hu,hxu,hl'⟩:=Wk.down_done q k y hd ht (pthI_O hp) (.inr hl)
   refine ⟨u,hxu,?_⟩
   have hul:∃ ys,u=.l ys:=by
    rcases hl' with rfl | h'
    ·simp only [pthI_nil] at hp;cases hp;simp [digp] at hu;subst hu;exact hl
    ·exact h'
   have:=(Own.dig p hown hu hul).den
   simpa using this
  ·rename_i y hk
   split at h
   ·simp at h
    obtain ⟨_,rfl⟩:=h
    simp only [hk,RelObj] at hob
    obtain ⟨t,ht,hown⟩:=hob
    simp only [pthI_nil] at hp;cases hp
    exact ⟨t,ht,hown.den⟩
   ·cases h
  ·rename_i y hk
   split at h
   ·simp at h
    obtain ⟨_,rfl⟩:=h
    simp only [hk,RelObj] at hob
    obtain ⟨t,ht,hown,_⟩:=hob
    simp only [pthI_nil] at hp;cases hp
    exact ⟨t,ht,hown.er⟩
   ·cases h
  ·rename_i y hk
   split at h
   ·simp at h
    obtain ⟨_,rfl⟩:=h
    simp only [hk,RelObj] at hob
    obtain ⟨_,t,ht,hown⟩:=hob
    simp only [pthI_nil] at hp;cases hp
    exact ⟨t,ht,hown.den⟩
   ·cases h
  ·cases h
end
section
variable {M:Nat→Prop} {B:Base} {d:Nat} {up:Nat→Nat→Value} {s:St} {ρ:List T} {G:Gh} {a:Act} {w:World}
theorem Rel.forget (h:Rel M B d up s ρ G a w) {s':St} (hs:∀ r,s'.get r=s.get r∨s'.get r=.un):Rel M B d up s' ρ G a w:=by
 refine ⟨fun e n he=>?_,fun b=>?_,fun i=>?_,fun r i hi=>?_,fun i hi=>?_,h.lab,h.dn,h.base,h.bt⟩
 ·rcases hs (.t e n) with hr | hr
  ·rw [hr];exact h.tm e n he
  ·rw [hr];trivial
 ·rcases hs (.x b) with hr | hr
  ·rw [hr];exact h.bx b
  ·rw [hr];trivial
 ·rcases hs (.o i) with hr | hr
  ·rw [hr];exact h.ob i
  ·rw [hr];trivial
 ·rcases hs r with hr | hr
  ·rw [hr] at hi;exact h.ment r i hi
  ·rw [hr] at hi;simp [idsSV] at hi
 ·refine h.key i ?_
  rcases hi with hi | hi
  ·rcases hs (.x i) with hr | hr
   ·exact .inl (hr ▸ hi)
   ·exact absurd hr hi
  ·rcases hs (.o i) with hr | hr
   ·exact .inr (hr ▸ hi)
   ·exact absurd hr hi
theorem Rel.congr (h:Rel M B d up s ρ G a w) {s':St} (hs:∀ r,s'.get r=s.get r):Rel M B d up s' ρ G a w:=h.forget fun r=>.inl (hs r)
def Gh.free (G:Gh) (id:Nat) (all:Bool):Gh :=
 { G with ω:=fun b=>match G.ω b with
   | some (.o i p)=>if i=id∧(all=true∨p≠[]) then none else some (.o i p)
   | l=>l }
theorem Gh.free_none {G:Gh} {id b:Nat} {all:Bool} (h:G.ω b=none):(G.free id all).ω b=none:=by simp [Gh.free,h]
theorem Gh.free_own {G:Gh} {id b i:Nat} {p:List (Nat × Nat)} {all:Bool} (h:G.ω b=some (.o i p)) (hi:i=id) (ha:all=true∨p≠[]):(G.free id all).ω b=none:=by
 simp only [Gh.free,h]
 rw [if_pos ⟨hi,ha⟩]
theorem Gh.free_q {G:Gh} {id b:Nat} {all:Bool} (h:G.q b=none):(G.free id all).q b=none:=by
 refine qf_of h Gh.free_none fun l hl hq=>?_
 cases l with
 | o i p =>
  simp only [Gh.free,hl]
  split
  ·exact .inl rfl
  ·exact .inr ⟨_,rfl,hq⟩
 | _=>simp [qt] at hq
theorem Gh.free_keep (G:Gh) (id:Nat) (all:Bool) (w:World):Keep (fun l=>∃ p,l=.o id p) (fun _=>False) G w (G.free id all) w:=by
 refine ⟨Nat.le_refl _,fun b _ hb=>⟨Gh.free_q hb,rfl⟩,fun b _ hb=>Gh.free_none hb,fun b l hb hl=>⟨?_,rfl⟩,fun _ _=>⟨rfl,fun _ _=>rfl⟩⟩
 cases l with
 | f=>simp [Gh.free,hb]
 | x i=>simp [Gh.free,hb]
 | o i p =>
  have:i≠id:=fun e=>hl ⟨p,by rw [e]⟩
  simp [Gh.free,hb,this]
theorem Own.den_free {id:Nat} {p:List (Nat × Nat)} {t:T} {dp:Bool} (h:Own G w id dp p t) (hp:p≠[]) (hdp:dp=true):Den (G.free id false).q w t (G.H id p):=by
 induction h with
 | nil h=>rw [h];exact .nil
 | @l dp p xs b wd cap arr elem cv h1 h2 h3 h4 h5 h6 h7 h8 h9 h10 h11 ih =>
  rw [h1]
  refine .l (cv:=cv) h6 h2.1 (qf_none (Gh.free_own h3 rfl (.inr hp))) (lt_of_heap h4) (fun i j t ht=>?_) fun i j t ht=>?_
  ·rw [cell_row h4,Nat.zero_add];exact h7 i j t ht
  ·cases t with
   | c v=>obtain ⟨hv,hs⟩:=h8 i j v ht;rw [hv];exact .c hs
   | l ys=>rw [h10 i j ys ht hdp];exact ih i j ys ht hdp (by simp) rfl
theorem Own.den_all {id:Nat} {p:List (Nat × Nat)} {t:T} {dp:Bool} (h:Own G w id dp p t):Den (G.free id true).q w t (G.H id p):=by
 induction h with
 | nil h=>rw [h];exact .nil
 | @l dp p xs b wd cap arr elem cv h1 h2 h3 h4 h5 h6 h7 h8 h9 h10 h11 ih =>
  rw [h1]
  refine .l (cv:=cv) h6 h2.1 (qf_none (Gh.free_own h3 rfl (.inl rfl))) (lt_of_heap h4) (fun i j t ht=>?_) fun i j t ht=>?_
  ·rw [cell_row h4,Nat.zero_add];exact h7 i j t ht
  ·cases t with
   | c v=>obtain ⟨hv,hs⟩:=h8 i j v ht;rw [hv];exact .c hs
   | l ys =>
    cases hd:dp with
    | false=>exact (h9 i j ys ht hd).keep (Nat.le_refl _) fun b _ hb=>⟨Gh.free_q hb,rfl⟩
    | true=>rw [h10 i j ys ht hd];exact ih i j ys ht hd
theorem Rel.thaw (h:Rel M B d up s ρ G a w) {id:Nat} {dp:Bool} {x:Lf} (hx:s.get (.o id)=.ob dp x) :
  Rel M B d up (s.set (.o id) (.fz .z x)) ρ (G.free id true) a w:=by
 have k:=G.free_keep id true w
 have hg:∀ r,r≠.o id→(s.set (.o id) (.fz .z x)).get r=s.get r:=fun r hr=>St.get_set_ne _ _ (Ne.symm hr)
 refine ⟨fun e n he=>?_,fun b=>?_,fun i=>?_,fun r i hi=>?_,fun i hi=>?_,fun b l hb=>?_,h.dn,?_,h.bt⟩
 ·rw [hg _ (by simp)];exact (h.tm e n he).keep k fun _ _ hn=>hn
 ·rw [hg _ (by simp)]
  exact (h.bx b).keep k (fun ⟨p,hp⟩=>by cases hp) (fun hn=>hn) fun _ _ hn=>hn
 ·by_cases hi:i=id
  ·subst hi
   rw [St.get_set_self]
   obtain ⟨t,ht,ho⟩:=(by simpa only [hx] using h.ob i:RelObj G w ρ i (.ob dp x))
   exact ⟨t,ht,ho.den_all,trivial⟩
  ·rw [hg _ (by simpa using hi)];exact (h.ob i).keep k (fun p ⟨q,hq⟩=>hi (by cases hq;rfl)) (fun hn=>hn) fun _ _ hn=>hn
 ·by_cases hr:r=.o id
  ·subst hr;rw [St.get_set_self] at hi;simp [idsSV] at hi
  ·rw [hg r hr] at hi;exact h.ment r i hi
 ·refine h.key i ?_
  rcases hi with hi | hi
  ·exact .inl (by rwa [hg _ (by simp)] at hi)
  ·by_cases hii:i=id
   ·subst hii;exact .inr (by rw [hx];simp)
   ·exact .inr (by rwa [hg _ (by simpa using hii)] at hi)
 ·refine h.lab b l ?_
  simp only [Gh.free] at hb
  split at hb
  ·split at hb
   ·cases hb
   ·rename_i hw _;rw [hw];exact hb
  ·exact hb
 ·refine ⟨h.base.os,h.base.tape,h.base.output,h.base.size,fun b hb h0=>?_,fun b hb=>?_,h.base.gl⟩
  ·obtain ⟨h1,h2⟩:=h.base.free b hb h0
   exact ⟨Gh.free_none h1,h2⟩
  ·obtain ⟨h1,h2⟩:=h.base.frn b hb
   exact ⟨by simp [Gh.free,h1],h2⟩
theorem Rel.flat (h:Rel M B d up s ρ G a w) {id:Nat} {dp:Bool} {x:Lf} (hx:s.get (.o id)=.ob dp x) :
  Rel M B d up (s.set (.o id) (.ob false x)) ρ (G.free id false) a w:=by
 have k:=G.free_keep id false w
 have hg:∀ r,r≠.o id→(s.set (.o id) (.ob false x)).get r=s.get r:=fun r hr=>St.get_set_ne _ _ (Ne.symm hr)
 refine ⟨fun e n he=>?_,fun b=>?_,fun i=>?_,fun r i hi=>?_,fun i hi=>?_,fun b l hb=>?_,h.dn,?_,h.bt⟩
 ·rw [hg _ (by simp)];exact (h.tm e n he).keep k fun _ _ hn=>hn
 ·rw [hg _ (by simp)]
  exact (h.bx b).keep k (fun ⟨p,hp⟩=>by cases hp) (fun hn=>hn) fun _ _ hn=>hn
 ·by_cases hi:i=id
  ·subst hi
   rw [St.get_set_self]
   obtain ⟨t,ht,ho⟩:=(by simpa only [hx] using h.ob i:RelObj G w ρ i (.ob dp x))
   refine ⟨t,ht,?_⟩
   cases ho with
   | nil h=>exact .nil h
   | @l _ _ xs b wd cap arr elem cv h1 h2 h3 h4 h5 h6 h7 h8 h9 h10 h11 =>
    refine .l (cv:=cv) h1 h2 (by simp [Gh.free,h3]) h4 h5 h6 h7 h8 (fun p j ys hy _=>?_) (fun _ _ _ _ hf=>by cases hf) (fun _ _ _ _ hf=>by cases hf)
    cases hd:dp with
    | false=>exact (h9 p j ys hy hd).keep (Nat.le_refl _) fun b _ hb=>⟨Gh.free_q hb,rfl⟩
    | true=>rw [h10 p j ys hy hd];exact (h11 p j ys hy hd).den_free (by simp) rfl
  ·rw [hg _ (by simpa using hi)];exact (h.ob i).keep k (fun p ⟨q,hq⟩=>hi (by cases hq;rfl)) (fun hn=>hn) fun _ _ hn=>hn
 ·by_cases hr:r=.o id
  ·subst hr;rw [St.get_set_self] at hi;simp [idsSV] at hi
  ·rw [hg r hr] at hi;exact h.ment r i hi
 ·refine h.key i ?_
  rcases hi with hi | hi
  ·exact .inl (by rwa [hg _ (by simp)] at hi)
  ·by_cases hii:i=id
   ·subst hii;exact .inr (by rw [hx];simp)
   ·exact .inr (by rwa [hg _ (by simpa using hii)] at hi)
 ·refine h.lab b l ?_
  simp only [Gh.free] at hb
  split at hb
  ·split at hb
   ·cases hb
   ·rename_i hw _;rw [hw];exact hb
  ·exact hb
 ·refine ⟨h.base.os,h.base.tape,h.base.output,h.base.size,fun b hb h0=>?_,fun b hb=>?_,h.base.gl⟩
  ·obtain ⟨h1,h2⟩:=h.base.free b hb h0
   exact ⟨Gh.free_none h1,h2⟩
  ·obtain ⟨h1,h2⟩:=h.base.frn b hb
   exact ⟨by simp [Gh.free,h1],h2⟩
end
def zeroB:List Ce→List Value→Bool
 | [],[]=>true
 | .p (.k (.int k n)) :: cs,.int k' n' :: vs=>decide (k=k') && decide (n=n') && zeroB cs vs
 | .p (.k (.bool b)) :: cs,.bool b' :: vs=>decide (b=b') && zeroB cs vs
 | .p (.k (.string x)) :: cs,.string x' :: vs=>decide (x=x') && zeroB cs vs
 | .n :: cs,.slice none 0 0 :: vs=>zeroB cs vs
 | _,_=>false
def fieldsB (P:Program):List (Nat × Nat)→List Field→Bool
 | [],[]=>true
 | o :: os,f :: fs=>Nat.beq f.offset o.1 && (match P.info? f.type with | some i=>!Nat.beq i.size 0 && Nat.beq i.size o.2 | none=>false) && fieldsB P os fs
 | _,_=>false
def eqFs (P:Program):Nat→List Ce→List Field→Bool
 | _,[],[]=>true
 | i,z :: zs,f :: fs=>Nat.beq f.offset i && decide (f.name≠"_") && (match P.underlying f.type with | some (.int _)=>Nat.beq (kdCe z) 1 | some .bool=>Nat.beq (kdCe z) 4 | some .string=>Nat.beq (kdCe z) 2 | _=>false) && eqFs P (i+1) zs fs
 | _,_,_=>false
def tyB (P:Program) (t:Nat) (ti:TI):Bool :=
 match P.info? t,P.underlying t with
 | some i,some u =>
  Nat.beq i.size ti.sz && Nat.beq i.bytes ti.bytes && (match i.zero with | some z=>zeroB ti.zero z.cells.toList | none=>false) && Nat.beq ti.zero.length ti.sz &&
  (match u with
   | .struct fs=>ti.ag && (Nat.beq ti.kd 0 || (Nat.beq ti.kd 5 && Nat.beq fs.size ti.sz && !P.stoodInHeld t && !P.eqGuardType P.depth t && eqFs P 0 ti.zero fs.toList)) && fieldsB P ti.fs fs.toList
   | .array ..=>false
   | .slice e=>!ti.ag && Nat.beq ti.sz 1 && Nat.beq ti.kd 3 && Nat.beq e ti.el && ti.fs.isEmpty
   | .int kk=>!ti.ag && Nat.beq ti.sz 1 && Nat.beq ti.kd 1 && (match ti.zero with | [.p (.k (.int k' _))]=>decide (kk=k') | _=>false) && ti.fs.isEmpty
   | .string=>!ti.ag && Nat.beq ti.sz 1 && Nat.beq ti.kd 2 && ti.fs.isEmpty
   | .bool=>!ti.ag && Nat.beq ti.sz 1 && Nat.beq ti.kd 4 && ti.fs.isEmpty
   | _=>!ti.ag && Nat.beq ti.sz 1 && Nat.beq ti.kd 0 && ti.fs.isEmpty)
 | _,_=>false
def ZeroOk:List Ce→List Value→Prop
 | [],[]=>True
 | .p (.k v) :: cs,v' :: vs=>v=v'∧scV v=true∧ZeroOk cs vs
 | .n :: cs,v :: vs=>v=.slice none 0 0∧ZeroOk cs vs
 | _,_=>False
theorem zeroB_ok:∀ {cs:List Ce} {vs:List Value},zeroB cs vs=true→ZeroOk cs vs:=by
 intro cs
 induction cs with
 | nil=>intro vs h;cases vs <;> simp_all [zeroB,ZeroOk]
 | cons c cs ih =>
  intro vs h
  cases vs with
  | nil=>cases c <;> simp_all [zeroB]
  | cons v vs =>
   cases c with
   | p x =>
    cases x with
    | k u =>
     cases u <;> cases v <;> simp_all [zeroB,ZeroOk,scV]
    | a n=>simp [zeroB] at h
    | e=>simp [zeroB] at h
   | o id q=>simp [zeroB] at h
   | n =>
    cases v with
    | slice a l c =>
     unfold zeroB at h
     split at h <;> simp_all [ZeroOk]
    | _=>simp [zeroB] at h
   | d=>simp [zeroB] at h
structure TyOk (P:Program) (t:Nat) (ti:TI):Prop where
 info:∃ i z,P.info? t=some i∧i.size=ti.sz∧i.bytes=ti.bytes∧i.zero=some z∧ZeroOk ti.zero z.cells.toList
 zlen:ti.zero.length=ti.sz
 one:ti.ag=false→ti.sz=1
 ag:∃ u,P.underlying t=some u∧(ti.ag=true↔∃ fs,u=.struct fs)∧(∀ n e,u≠.array n e)
 sl:ti.kd=3→P.underlying t=some (.slice ti.el)
 it:ti.kd=1→∃ k,P.underlying t=some (.int k)
 st:ti.kd=2→P.underlying t=some .string
 ik:ti.kd=1→∀ k n,ti.zero=[.p (.k (.int k n))]→P.underlying t=some (.int k)
 bo:ti.kd=4→P.underlying t=some .bool
 ni:ti.kd≠1→∀ k,P.underlying t≠some (.int k)
 fs:∀ (f:Nat) (o:Nat × Nat),ti.fs[f]?=some o→∃ (fs:Array Field) (fld:Field) (i:TypeInfo),P.underlying t=some (.struct fs)∧fs[f]?=some fld∧fld.offset=o.1∧P.info? fld.type=some i∧i.size≠0∧i.size=o.2
 fl:∀ fs,P.underlying t=some (.struct fs)→fs.size=ti.fs.length
 eq:ti.kd=5→∃ fs:Array Field,P.underlying t=some (.struct fs)∧fs.size=ti.sz∧P.stoodInHeld t=false∧P.eqGuardType P.depth t=false∧eqFs P 0 ti.zero fs.toList=true
theorem fieldsB_ok {P:Program}:∀ {os:List (Nat × Nat)} {fs:List Field},fieldsB P os fs=true→fs.length=os.length∧∀ (f:Nat) (o:Nat × Nat),os[f]?=some o →
  ∃ (fld:Field) (i:TypeInfo),fs[f]?=some fld∧fld.offset=o.1∧P.info? fld.type=some i∧i.size≠0∧i.size=o.2
 | [],[],_=>⟨rfl,fun f o h=>by simp at h⟩
 | [],_ :: _,h=>by simp [fieldsB] at h
 | o :: os,[],h=>by simp [fieldsB] at h
 | o :: os,fl :: fs,h=>by
  simp only [fieldsB,Bool.and_eq_true] at h
  obtain ⟨⟨h1,h2⟩,h3⟩:=h
  obtain ⟨hl,hr⟩:=fieldsB_ok h3
  refine ⟨by simp [hl],fun f o' hf=>?_⟩
  cases f with
  | zero =>
   simp at hf
   subst hf
   cases hi:P.info? fl.type with
   | none=>simp [hi] at h2
   | some i =>
    simp only [hi,Bool.and_eq_true] at h2
    exact ⟨fl,i,rfl,Nat.eq_of_beq_eq_true h1,hi,fun e=>by simp [e] at h2,Nat.eq_of_beq_eq_true h2.2⟩
  | succ f=>exact hr f o' (by simpa using hf)
theorem tyB_ok {P:Program} {t:Nat} {ti:TI} (h:tyB P t ti=true):TyOk P t ti:=by
 unfold tyB at h
 split at h
 ·rename_i i u hi hu
  simp only [Bool.and_eq_true] at h
  obtain ⟨⟨⟨⟨h1,h2⟩,h3⟩,h4⟩,h5⟩:=h
  have z:∃ z,i.zero=some z∧ZeroOk ti.zero z.cells.toList:=by
   split at h3
   ·rename_i z hz;exact ⟨z,hz,zeroB_ok h3⟩
   ·cases h3
  obtain ⟨z,hz,hzo⟩:=z
  refine ⟨⟨i,z,hi,Nat.eq_of_beq_eq_true h1,Nat.eq_of_beq_eq_true h2,hz,hzo⟩,Nat.eq_of_beq_eq_true h4,?_,⟨u,hu,?_,?_⟩,?_,?_,?_,?_,?_,?_,?_,?_,?_⟩
  ·intro ha;split at h5 <;> simp_all
  ·split at h5 <;> simp_all
  ·intro n e hne;subst hne;simp at h5
  ·intro hk;rw [hu];split at h5 <;> simp_all
  ·intro hk;rw [hu];split at h5 <;> simp_all
  ·intro hk;rw [hu];split at h5 <;> simp_all
  ·intro hk k n hz
   rw [hu]
   rw [hz,hk] at h5
   split at h5
   ·simp only [Bool.and_eq_true,Bool.or_eq_true] at h5
    obtain ⟨⟨_,h6⟩,_⟩:=h5
    rcases h6 with h6 | ⟨⟨⟨⟨h6,_⟩,_⟩,_⟩,_⟩ <;> exact absurd h6 (by decide)
   ·cases h5
   ·simp only [Bool.and_eq_true] at h5
    exact absurd h5.1.1.2 (by decide)
   ·simp only [Bool.and_eq_true,decide_eq_true_eq] at h5
    rw [h5.1.2]
   all_goals
    simp only [Bool.and_eq_true] at h5
    exact absurd h5.1.2 (by decide)
  ·intro hk;rw [hu];split at h5 <;> simp_all
  ·intro hk k hne;rw [hu] at hne;cases hne;simp at h5;exact hk h5.1.1.2
  ·intro f o hf
   rw [hu]
   split at h5
   ·rename_i fs
    simp only [Bool.and_eq_true] at h5
    obtain ⟨fld,i',h6,h7⟩:=(fieldsB_ok h5.2).2 f o hf
    exact ⟨fs,fld,i',rfl,by simpa using h6,h7⟩
   ·cases h5
   all_goals
    simp only [Bool.and_eq_true,List.isEmpty_iff] at h5
    rw [h5.2] at hf
    simp at hf
  ·intro fs hfs
   rw [hu] at hfs
   cases hfs
   simp only [Bool.and_eq_true] at h5
   have:=(fieldsB_ok h5.2).1
   simpa using this
  ·intro hk
   rw [hu]
   split at h5
   ·rename_i fs
    simp only [Bool.and_eq_true,Bool.or_eq_true,Bool.not_eq_true'] at h5
    obtain ⟨⟨_,h6⟩,_⟩:=h5
    rcases h6 with h6 | ⟨⟨⟨⟨_,h7⟩,h8⟩,h9⟩,h10⟩
    ·have:=Nat.eq_of_beq_eq_true h6;omega
    ·exact ⟨fs,rfl,Nat.eq_of_beq_eq_true h7,h8,h9,h10⟩
   ·cases h5
   all_goals
    simp [hk] at h5
 ·cases h
section
variable {M:Nat→Prop} {B:Base} {d:Nat} {up:Nat→Nat→Value} {ρ:List T} {G:Gh} {a:Act} {w:World} {S:Nat→Sem1}
structure WOk (M:Nat→Prop) (B:Base) (d:Nat) (up:Nat→Nat→Value) (ρ:List T) (G:Gh) (a:Act) (w:World) (k:Wk) (G1:Gh):Prop where
 rel:Rel M B d up (k.r.sets k.w) ρ G1 a w
 keep:Keep (keysOf k.w) (fun _=>False) G w G1 w
theorem Wk.get_sets (k:Wk) (r:Res):k.get r=(k.r.sets k.w).get r:=by
 rw [St.get_sets]
 unfold Wk.get
 cases k.w.look r <;> rfl
theorem keysOf_set {W:St} {r:Res} {v:SV} {l:Lb} (h:keysOf W l):keysOf (W.set r v) l:=by
 cases l with
 | f=>exact h
 | x b =>
  show (W.set r v).look (.x b)≠none
  by_cases hr:r=.x b
  ·subst hr;rw [St.look_set_self];simp
  ·rw [St.look_set_ne _ _ hr];exact h
 | o i p =>
  show (W.set r v).look (.o i)≠none
  by_cases hr:r=.o i
  ·subst hr;rw [St.look_set_self];simp
  ·rw [St.look_set_ne _ _ hr];exact h
theorem sets_set_get (s W:St) (r:Res) (v:SV) (r':Res):(s.sets (W.set r v)).get r'=((s.sets W).set r v).get r':=by
 rw [St.get_sets]
 by_cases h:r=r'
 ·subst h;rw [St.look_set_self,St.get_set_self];rfl
 ·rw [St.look_set_ne _ _ h,St.get_set_ne _ _ h,St.get_sets]
theorem WOk.start {s:St} (h:Rel M B d up s ρ G a w) (R:List Res) (ct:Ct):WOk M B d up ρ G a w ⟨s.only R,[],ct,[]⟩ G:=by
 refine ⟨h.forget fun r=>?_,(Keep.refl G w).mono (fun _ h=>h.elim) fun _ h=>h⟩
 by_cases hr:r∈R
 ·exact .inl (St.get_only s R hr)
 ·exact .inr (St.get_only_not s R hr)
theorem WOk.same {k k':Wk} {G1:Gh} (h:WOk M B d up ρ G a w k G1) (hs:k.Same k'):WOk M B d up ρ G a w k' G1:=by
 obtain ⟨h1,h2,h3⟩:=hs
 exact ⟨by rw [h1,h2];exact h.rel,by rw [h2];exact h.keep⟩
theorem WOk.obj {k:Wk} {G1:Gh} (h:WOk M B d up ρ G a w k G1) (id:Nat):RelObj G1 w ρ id (k.get (.o id)):=by
 rw [Wk.get_sets];exact h.rel.ob id
theorem WOk.thaw {k k':Wk} {G1:Gh} (h:WOk M B d up ρ G a w k G1) {id:Nat} (hk:k.thaw id=some k') :
  ∃ G2,WOk M B d up ρ G a w k' G2∧G2.β=G1.β∧G2.H=G1.H∧k'.r=k.r∧k'.ct=k.ct∧k'.is=k.is:=by
 unfold Wk.thaw at hk
 split at hk
 ·rename_i dp x hx
  cases hk
  rw [Wk.get_sets] at hx
  refine ⟨_,⟨(h.rel.thaw hx).congr (sets_set_get _ _ _ _),(h.keep.mono (fun l hl=>keysOf_set hl) fun _ hn=>hn).trans ((G1.free_keep id true w).mono ?_ fun _ hn=>hn)⟩,rfl,rfl,rfl,rfl,rfl⟩
  rintro l ⟨p,rfl⟩
  show (k.w.set _ _).look (.o id)≠none
  rw [St.look_set_self];simp
 ·cases hk;exact ⟨G1,h,rfl,rfl,rfl,rfl,rfl⟩
 ·cases hk
theorem WOk.flat {k k':Wk} {G1:Gh} (h:WOk M B d up ρ G a w k G1) {id:Nat} (hk:k.flat id=some k') :
  ∃ G2,WOk M B d up ρ G a w k' G2∧G2.β=G1.β∧G2.H=G1.H∧k'.r=k.r∧k'.ct=k.ct∧k'.is=k.is:=by
 unfold Wk.flat at hk
 split at hk
 ·rename_i dp x hx
  cases hk
  rw [Wk.get_sets] at hx
  refine ⟨_,⟨(h.rel.flat hx).congr (sets_set_get _ _ _ _),(h.keep.mono (fun l hl=>keysOf_set hl) fun _ hn=>hn).trans ((G1.free_keep id false w).mono ?_ fun _ hn=>hn)⟩,rfl,rfl,rfl,rfl,rfl⟩
  rintro l ⟨p,rfl⟩
  show (k.w.set _ _).look (.o id)≠none
  rw [St.look_set_self];simp
 ·cases hk;exact ⟨G1,h,rfl,rfl,rfl,rfl,rfl⟩
 ·cases hk
def Goal (P:Program) (M:Nat→Prop) (B:Base) (d:Nat) (up:Nat→Nat→Value) (ρ:List T) (a:Act) (w:World) (s:St) (o:Oper) (W:St) (Q:Exit→Act→World→Prop):Prop :=
 o.wp P a w (fun a' w'=>∃ G',Rel M B d up (s.sets W) ρ G' a' w'∧a'.tmps.size=a.tmps.size) Q
theorem put_size (a:Act) (dst:Option Nat) (v:Value):(a.put dst v).tmps.size=a.tmps.size:=by
 cases dst <;> simp [Act.put]
theorem value_step {P:Program} {s:St} {k:Wk} {G1:Gh} (h:Rel M B d up s ρ G a w) (hk:WOk M B d up ρ G a w k G1) {o:Oper} {n:Nat} (ho:o.dst=some n) (hn:n < a.tmps.size)
  {v:Value} (hx:(execOp a.eval o).run P w=.ok (.value v) w) {x:SV} (hv:RelSV G1 w ρ x v) (hm:∀ i∈idsSV x,M i) (Q:Exit→Act→World→Prop) :
  Goal P M B d up ρ a w s o (k.w.set (.t d n) x) Q:=by
 simp only [Goal,Oper.wp,hx,Oper.upon,ho]
 refine ⟨G1,h.glue (s':=k.r) (hk.keep.mono (fun l hl=>keysOf_set hl) fun _ hf=>hf) (fun _ hf=>hf.elim) (fun _ hm=>hm) ?_ ?_,put_size _ _ _⟩
 ·intro m hm';cases hm';rw [St.look_set_self];simp
 ·exact (hk.rel.put1 hn hv hm).congr (sets_set_get _ _ _ _)
theorem value_step0 {P:Program} {s:St} {k:Wk} {G1:Gh} (h:Rel M B d up s ρ G a w) (hk:WOk M B d up ρ G a w k G1) {o:Oper} (ho:o.dst=none)
  {v:Value} (hx:(execOp a.eval o).run P w=.ok (.value v) w) (Q:Exit→Act→World→Prop) :
  Goal P M B d up ρ a w s o k.w Q:=by
 simp only [Goal,Oper.wp,hx,Oper.upon,ho]
 exact ⟨G1,h.glue (s':=k.r) (dst:=none) (hk.keep.mono (fun l hl=>hl) fun _ hf=>hf) (fun _ hf=>hf.elim) (fun _ hm=>hm) (fun _ hf=>by cases hf) hk.rel,rfl⟩
theorem const_rel {v:Value}:RelSV G w ρ (constSV v) v:=by
 unfold constSV
 split
 ·exact ⟨_,rfl,rfl,fun _ h=>by cases h⟩
 ·rename_i hne
  cases hs:scV v with
  | false=>trivial
  | true =>
   refine ⟨_,rfl,⟨.c v,by simp [Lf.evo,hs],.c hs⟩,fun x h=>?_⟩
   subst h;simp [scV] at hs
theorem const_ids {v:Value}:idsSV (constSV v)=[]:=by
 unfold constSV
 split
 ·rfl
 ·cases scV v <;> rfl
theorem opnd_rel {s:St} (h:Rel M B d up s ρ G a w) (x:Operand):RelSV G w ρ (opnd d s.get x) (a.eval x)∧∀ i∈idsSV (opnd d s.get x),M i:=by
 cases x with
 | tmp t =>
  refine ⟨?_,h.ment _⟩
  have:=h.tm d t (Nat.le_refl _)
  simpa [tmv,Act.eval,opnd] using this
 | const v=>exact ⟨const_rel,fun i hi=>by simp [opnd,const_ids] at hi⟩
 | global g=>exact ⟨trivial,fun i hi=>by simp [opnd,idsSV] at hi⟩
 | func f=>exact ⟨rfl,fun i hi=>by simp [opnd,idsSV] at hi⟩
theorem WOk.opn {k:Wk} {G1:Gh} (h:WOk M B d up ρ G a w k G1) (x:Operand):RelSV G1 w ρ (opnd d k.get x) (a.eval x)∧∀ i∈idsSV (opnd d k.get x),M i:=by
 have e:opnd d k.get x=opnd d (k.r.sets k.w).get x:=by
  cases x with
  | tmp t=>exact Wk.get_sets _ _
  | _=>rfl
 rw [e];exact opnd_rel h.rel x
theorem Wk.one_done {k k':Wk} {x:SV} {y:Lf} {G1:Gh} {v:Value} (hk:WOk M B d up ρ G a w k G1) (h:k.one x=some (k',y)) (hd:k'.Done S ρ) (hr:RelSV G1 w ρ x v) :
  k.Done S ρ∧k.Same k'∧∃ t,y.evo ρ=some t∧Den (er G1.ω) w t v:=by
 unfold Wk.one at h
 split at h
 ·obtain ⟨e,he,hc,_⟩:=hr
  cases he
  exact ⟨Wk.val_pre h hd,Wk.val_same h,Wk.val_done h hd hc fun id _=>hk.obj id⟩
 ·cases h
theorem Den.scalar {ω:Nat→Option Lb} {v u:Value} (h:Den ω w (.c v) u):u=v∧scV v=true:=by
 cases h with
 | c h=>exact ⟨rfl,h⟩
theorem Den.rows {ω:Nat→Option Lb} {xs:List (List T)} {u:Value} (h:Den ω w (.l xs) u):∃ b c,u=.slice b xs.length c∧(xs≠[]→xs.length≤c):=by
 cases h with
 | nil=>exact ⟨_,_,rfl,fun h=>absurd rfl h⟩
 | l _ hc=>exact ⟨_,_,rfl,fun _=>hc⟩
end
section
variable {M:Nat→Prop} {B:Base} {d:Nat} {up:Nat→Nat→Value} {ρ:List T} {G:Gh} {a:Act} {w:World} {S:Nat→Sem1} {P:Program}
def putW (d:Nat) (o:Oper) (k:Wk) (v:SV):Wk:=match o.dst with | some n=>k.set (.t d n) v | none=>k
theorem value_stepP {s:St} {k:Wk} {G1:Gh} (h:Rel M B d up s ρ G a w) (hk:WOk M B d up ρ G a w k G1) {o:Oper} (hn:∀ n,o.dst=some n→n < a.tmps.size)
  {v:Value} (hx:(execOp a.eval o).run P w=.ok (.value v) w) {x:SV} (hv:RelSV G1 w ρ x v) (hm:∀ i∈idsSV x,M i) (Q:Exit→Act→World→Prop) :
  Goal P M B d up ρ a w s o (putW d o k x).w Q:=by
 unfold putW
 cases ho:o.dst with
 | none=>exact value_step0 h hk ho hx Q
 | some n=>exact value_step h hk ho (hn n ho) hx hv hm Q
theorem plain_rel {G1:Gh} {y:Lf} {t:T} {v:Value} (hy:y.evo ρ=some t) (hd:Den G1.q w t v) (ha:∀ x,v≠.agg x):RelSV G1 w ρ (.v false [.p y]) v :=
 ⟨_,rfl,⟨t,hy,hd⟩,ha⟩
theorem scalar_rel {G1:Gh} {y:Lf} {v:Value} (hy:y.evo ρ=some (.c v)) (hs:scV v=true):RelSV G1 w ρ (.v false [.p y]) v :=
 plain_rel hy (.c hs) fun x hx=>by subst hx;simp [scV] at hs
theorem run_binV {op:BinOp} {t:TypeId} {x y:Operand} {u v r:Value} (h:binV op u v=some r) :
  ((do eqGuard op t x y u v;binOp op t u v:Sem Value)).run P w=.ok r w∧scV r=true:=by
 cases u <;> cases v <;> simp only [binV] at h <;> try cases h
 ·rename_i k n k' m
  have hg:(eqGuard op t x y (.int k n) (.int k' m)).run P w=.ok () w:=by
   unfold eqGuard;split <;> rfl
  rw [Sem.run_bind,hg]
  cases op <;> simp only at h <;> (repeat' (split at h)) <;> (try cases h) <;>
   simp_all [binOp,Op.intArith,Op.intDiv,Op.intCmp,Op.intBits,Op.shift,scV] <;> (intro hneg;omega)
 ·rename_i s t'
  have hg:(eqGuard op t x y (.string s) (.string t')).run P w=.ok () w:=by
   unfold eqGuard;split <;> rfl
  rw [Sem.run_bind,hg]
  cases op <;> simp only at h <;> (try cases h)
  ·split at h
   ·rename_i hs
    cases h
    refine ⟨?_,rfl⟩
    have:¬ ((s.size+t'.size:Nat):Int) > IntKind.i64.max:=by
     have:IntKind.i64.max=9223372036854775807:=by rfl
     simp only [cap32] at hs
     omega
    simp only [Result.andThen_ok,binOp,Op.stringOp,if_neg this,Sem.run_pure]
   ·cases h
  ·exact ⟨rfl,rfl⟩
  ·exact ⟨rfl,rfl⟩
theorem run_boolV {op:BinOp} {t:TypeId} {x y:Operand} {u v r:Value} (ht:P.underlying t=some .bool) (h:boolV op u v=some r) :
  ((do eqGuard op t x y u v;binOp op t u v:Sem Value)).run P w=.ok r w∧scV r=true:=by
 cases u <;> cases v <;> simp only [boolV] at h <;> try cases h
 rename_i p q
 have hg:(eqGuard op t x y (.bool p) (.bool q)).run P w=.ok () w:=by
  unfold eqGuard;split <;> rfl
 have he:(Op.equal t (.bool p) (.bool q)).run P w=.ok (p == q) w:=by
  have key:∀ n,(Op.equalIn (n+1) t (.bool p) (.bool q)).run P w=.ok (p == q) w:=fun n=>by
   simp only [Op.equalIn,Sem.run_bind,run_underlying ht,Result.andThen_ok,Sem.run_pure]
  exact key 9999
 rw [Sem.run_bind,hg]
 cases op <;> simp only at h <;> (try cases h)
 ·simp [binOp,he,scV]
 ·simp [binOp,he,scV]
theorem run_unV {op:UnOp} {u r:Value} (h:unV op u=some r):(Op.unary op u).run P w=.ok r w∧scV r=true:=by
 cases u <;> simp only [unV] at h <;> try cases h
 ·cases op <;> simp only at h <;> (try cases h)
  exact ⟨rfl,rfl⟩
 ·cases op <;> simp only at h <;> (try cases h)
  exact ⟨rfl,rfl⟩
theorem two_done {k k1 k2:Wk} {G1:Gh} {c e:Ce} {x y:Lf} {u v:Value} {p:Prim} (hk:WOk M B d up ρ G a w k G1)
  (h1:k.val c=some (k1,x)) (h2:k1.val e=some (k2,y)) (hd:(k2.em p [x,y]).1.Done S ρ) (hc:RelCe G1 w ρ c u) (he:RelCe G1 w ρ e v) :
  k.Done S ρ∧WOk M B d up ρ G a w (k2.em p [x,y]).1 G1∧(k2.em p [x,y]).1.ct.i=k.ct.i∧∃ t t' r,Den (er G1.ω) w t u∧Den (er G1.ω) w t' v∧p.ev [t,t']=some r∧(k2.em p [x,y]).2.evo ρ=some r:=by
 obtain ⟨hd2,r,hr,hrv⟩:=Wk.em_done hd
 have hk1:=hk.same (Wk.val_same h1)
 have hk2:=hk1.same (Wk.val_same h2)
 have hd1:=Wk.val_pre h2 hd2
 obtain ⟨t,ht,hdt⟩:=Wk.val_done h1 hd1 hc fun id _=>hk.obj id
 obtain ⟨t',ht',hdt'⟩:=Wk.val_done h2 hd2 he fun id _=>hk1.obj id
 refine ⟨Wk.val_pre h1 hd1,hk2.same (Wk.em_same _ _ _),?_,t,t',r,hdt,hdt',?_,hrv⟩
 ·rw [(Wk.em_same k2 p [x,y]).i,(Wk.val_same h2).i,(Wk.val_same h1).i]
 ·simpa [Lf.evo_ev ht,Lf.evo_ev ht'] using hr
structure TyAll (P:Program) (cx:Cx):Prop where
 ty:∀ t ti,cx.ty t=some ti→TyOk P t ti
variable {cx:Cx} {fid rid oi:Nat} {s:St} {R:List Res} {ct:Ct} {k':Wk} {o:Oper} {Q:Exit→Act→World→Prop}
theorem st_copy (h:Rel M B d up s ρ G a w) (hn:∀ n,o.dst=some n→n < a.tmps.size) {x:Operand} (ho:o.op=.move x∨o.op=.assign x)
  (hk:stepOp cx fid rid d o oi ⟨s.only R,[],ct,[]⟩=some k'):Goal P M B d up ρ a w s o k'.w Q∧k'.ct.i=ct.i:=by
 have hw:=WOk.start h R ct
 have hx:(execOp a.eval o).run P w=.ok (.value (a.eval x)) w:=by
  unfold execOp;rcases ho with ho | ho <;> rw [ho] <;> rfl
 have hk2:some (putW d o ⟨s.only R,[],ct,[]⟩ (opnd d (Wk.get ⟨s.only R,[],ct,[]⟩) x))=some k':=by
  rw [← hk];unfold stepOp putW;rcases ho with ho | ho <;> rw [ho] <;> rfl
 cases hk2
 obtain ⟨h1,h2⟩:=hw.opn x
 refine ⟨value_stepP h hw hn hx h1 h2 Q,?_⟩
 unfold putW;cases o.dst <;> rfl
theorem putW_done {k:Wk} {v:SV}:(putW d o k v).Done S ρ↔k.Done S ρ:=by
 unfold putW;cases o.dst <;> rfl
theorem putW_i {k:Wk} {v:SV}:(putW d o k v).ct=k.ct:=by
 unfold putW;cases o.dst <;> rfl
theorem st_binOp (tys:TyAll P cx) (h:Rel M B d up s ρ G a w) (hn:∀ n,o.dst=some n→n < a.tmps.size) {op:BinOp} {t yt:TypeId} {x y:Operand} (ho:o.op=.binOp op t x y yt)
  {c e:Ce} (hcx:opnd d (Wk.get ⟨s.only R,[],ct,[]⟩) x=.v false [c]) (hcy:opnd d (Wk.get ⟨s.only R,[],ct,[]⟩) y=.v false [e])
  (hk:stepOp cx fid rid d o oi ⟨s.only R,[],ct,[]⟩=some k') (hd:k'.Done S ρ):Goal P M B d up ρ a w s o k'.w Q∧k'.ct.i=ct.i:=by
 have hw:=WOk.start h R ct
 simp only [stepOp,ho,hcx,hcy,Option.bind_eq_some_iff] at hk
 obtain ⟨ti,hti,⟨k1,x1⟩,h1,⟨k2,y1⟩,h2,hk⟩:=hk
 have hrx:=(hw.opn x).1
 have hry:=(hw.opn y).1
 rw [hcx] at hrx
 rw [hcy] at hry
 obtain ⟨_,hc1,hc,_⟩:=hrx
 obtain ⟨_,he1,he,_⟩:=hry
 cases hc1
 cases he1
 simp only at hk
 have hT:=tys.ty _ _ hti
 have fin:∀ (p:Prim) (r:Value),(putW d o (k2.em p [x1,y1]).1 (.v false [.p (k2.em p [x1,y1]).2]))=k'→(execOp a.eval o).run P w=.ok (.value r) w→scV r=true →
   (k2.em p [x1,y1]).2.evo ρ=some (.c r)→WOk M B d up ρ G a w (k2.em p [x1,y1]).1 G→(k2.em p [x1,y1]).1.ct.i=ct.i→Goal P M B d up ρ a w s o k'.w Q∧k'.ct.i=ct.i:=by
  intro p r hp hr hs hv hwk hi
  subst hp
  refine ⟨value_stepP h hwk hn hr (scalar_rel hv hs) (fun i hi=>by simp [idsSV,idsCs] at hi) Q,?_⟩
  rw [putW_i];exact hi
 have hex:∀ r,((do eqGuard op t x y (a.eval x) (a.eval y);binOp op t (a.eval x) (a.eval y):Sem Value)).run P w=.ok r w→(execOp a.eval o).run P w=.ok (.value r) w:=by
  intro r hr
  unfold execOp
  rw [ho]
  show Sem.run P (do let v ← (do eqGuard op t x y (a.eval x) (a.eval y);binOp op t (a.eval x) (a.eval y):Sem Value);pure (Next.value v)) w=_
  rw [Sem.run_bind,hr];rfl
 cases h4:Nat.beq ti.kd 4 with
 | true =>
  simp only [h4,cond_true,Option.some.injEq] at hk
  have hd':(k2.em (.bb op) [x1,y1]).1.Done S ρ:=by
   have:(putW d o (k2.em (.bb op) [x1,y1]).1 (.v false [.p (k2.em (.bb op) [x1,y1]).2])).Done S ρ:=by rw [show putW d o _ _=k' from hk];exact hd
   exact putW_done.1 this
  obtain ⟨_,hwk,hi,t1,t2,r,hd1,hd2,hp,hv⟩:=two_done hw h1 h2 hd' hc he
  cases t1 with
  | l _=>simp [Prim.ev,T.val] at hp
  | c u =>
   cases t2 with
   | l _=>simp [Prim.ev,T.val] at hp
   | c v =>
    obtain ⟨e1,_⟩:=hd1.scalar
    obtain ⟨e2,_⟩:=hd2.scalar
    simp only [Prim.ev,T.val,Option.bind_some,Option.bind_eq_some_iff,Option.some.injEq] at hp
    obtain ⟨r',hb,rfl⟩:=hp
    obtain ⟨hr,hs⟩:=run_boolV (P:=P) (w:=w) (t:=t) (x:=x) (y:=y) (hT.bo (Nat.eq_of_beq_eq_true h4)) hb
    exact fin _ r' hk (hex r' (by rw [e1,e2];exact hr)) hs hv hwk hi
 | false =>
  simp only [h4,cond_false] at hk
  cases h5:(Nat.beq ti.kd 1 || Nat.beq ti.kd 2) with
  | false=>simp [h5] at hk
  | true =>
   simp only [h5,cond_true,Option.some.injEq] at hk
   have hd':(k2.em (.bin op) [x1,y1]).1.Done S ρ:=by
    have:(putW d o (k2.em (.bin op) [x1,y1]).1 (.v false [.p (k2.em (.bin op) [x1,y1]).2])).Done S ρ:=by rw [show putW d o _ _=k' from hk];exact hd
    exact putW_done.1 this
   obtain ⟨_,hwk,hi,t1,t2,r,hd1,hd2,hp,hv⟩:=two_done hw h1 h2 hd' hc he
   cases t1 with
   | l _=>simp [Prim.ev,T.val] at hp
   | c u =>
    cases t2 with
    | l _=>simp [Prim.ev,T.val] at hp
    | c v =>
     obtain ⟨e1,_⟩:=hd1.scalar
     obtain ⟨e2,_⟩:=hd2.scalar
     simp only [Prim.ev,T.val,Option.bind_some,Option.bind_eq_some_iff,Option.some.injEq] at hp
     obtain ⟨r',hb,rfl⟩:=hp
     obtain ⟨hr,hs⟩:=run_binV (P:=P) (w:=w) (t:=t) (x:=x) (y:=y) hb
     exact fin _ r' hk (hex r' (by rw [e1,e2];exact hr)) hs hv hwk hi
end
section
variable {M:Nat→Prop} {B:Base} {d:Nat} {up:Nat→Nat→Value} {ρ:List T} {G:Gh} {a:Act} {w:World} {S:Nat→Sem1} {P:Program}
variable {cx:Cx} {fid rid oi:Nat} {s:St} {R:List Res} {ct:Ct} {k':Wk} {o:Oper} {Q:Exit→Act→World→Prop}
theorem fin1 (h:Rel M B d up s ρ G a w) (hn:∀ n,o.dst=some n→n < a.tmps.size) {k k1:Wk} {G1:Gh} (hk:WOk M B d up ρ G a w k G1) {x:SV} {v:Value} {y:Lf} {p:Prim}
  (h1:k.one x=some (k1,y)) (hr:RelSV G1 w ρ x v) (hd:(putW d o (k1.em p [y]).1 (.v false [.p (k1.em p [y]).2])).Done S ρ)
  (hx:∀ t r,Den (er G1.ω) w t v→p.ev [t]=some r→∃ u,r=.c u∧scV u=true∧(execOp a.eval o).run P w=.ok (.value u) w) :
  Goal P M B d up ρ a w s o (putW d o (k1.em p [y]).1 (.v false [.p (k1.em p [y]).2])).w Q∧(putW d o (k1.em p [y]).1 (.v false [.p (k1.em p [y]).2])).ct.i=k.ct.i:=by
 have hd':=putW_done.1 hd
 obtain ⟨hd1,r,hr1,hv⟩:=Wk.em_done hd'
 obtain ⟨_,hs,t,ht,hdt⟩:=Wk.one_done hk h1 hd1 hr
 obtain ⟨u,rfl,hsu,hrun⟩:=hx t r hdt (by simpa [Lf.evo_ev ht] using hr1)
 refine ⟨value_stepP h ((hk.same hs).same (Wk.em_same _ _ _)) hn hrun (scalar_rel hv hsu) (fun i hi=>by simp [idsSV,idsCs] at hi) Q,?_⟩
 rw [putW_i,(Wk.em_same k1 p [y]).i,hs.i]
theorem fin2 (h:Rel M B d up s ρ G a w) (hn:∀ n,o.dst=some n→n < a.tmps.size) {k k1 k2:Wk} {G1:Gh} (hk:WOk M B d up ρ G a w k G1) {x x':SV} {v v':Value} {y y':Lf} {p:Prim}
  (h1:k.one x=some (k1,y)) (h2:k1.one x'=some (k2,y')) (hr:RelSV G1 w ρ x v) (hr':RelSV G1 w ρ x' v') (hd:(putW d o (k2.em p [y,y']).1 (.v false [.p (k2.em p [y,y']).2])).Done S ρ)
  (hx:∀ t t' r,Den (er G1.ω) w t v→Den (er G1.ω) w t' v'→p.ev [t,t']=some r→∃ u,r=.c u∧scV u=true∧(execOp a.eval o).run P w=.ok (.value u) w) :
  Goal P M B d up ρ a w s o (putW d o (k2.em p [y,y']).1 (.v false [.p (k2.em p [y,y']).2])).w Q∧(putW d o (k2.em p [y,y']).1 (.v false [.p (k2.em p [y,y']).2])).ct.i=k.ct.i:=by
 have hd':=putW_done.1 hd
 obtain ⟨hd2,r,hr1,hv⟩:=Wk.em_done hd'
 have hs1:k.Same k1:=by
  unfold Wk.one at h1;split at h1
  ·exact Wk.val_same h1
  ·cases h1
 obtain ⟨hd1,hs2,t',ht',hdt'⟩:=Wk.one_done (hk.same hs1) h2 hd2 hr'
 obtain ⟨_,_,t,ht,hdt⟩:=Wk.one_done hk h1 hd1 hr
 obtain ⟨u,rfl,hsu,hrun⟩:=hx t t' r hdt hdt' (by simpa [Lf.evo_ev ht,Lf.evo_ev ht'] using hr1)
 refine ⟨value_stepP h (((hk.same hs1).same hs2).same (Wk.em_same _ _ _)) hn hrun (scalar_rel hv hsu) (fun i hi=>by simp [idsSV,idsCs] at hi) Q,?_⟩
 rw [putW_i,(Wk.em_same k2 p [y,y']).i,hs2.i,hs1.i]
theorem st_unOp (h:Rel M B d up s ρ G a w) (hn:∀ n,o.dst=some n→n < a.tmps.size) {op:UnOp} {t:TypeId} {x:Operand} (ho:o.op=.unOp op t x)
  (hk:stepOp cx fid rid d o oi ⟨s.only R,[],ct,[]⟩=some k') (hd:k'.Done S ρ):Goal P M B d up ρ a w s o k'.w Q∧k'.ct.i=ct.i:=by
 have hw:=WOk.start h R ct
 simp only [stepOp,ho,Option.bind_eq_some_iff,Option.some.injEq] at hk
 obtain ⟨⟨k1,y⟩,h1,hk⟩:=hk
 subst hk
 refine fin1 h hn hw h1 (hw.opn x).1 hd fun t r hdt hr=>?_
 cases t with
 | l _=>simp [Prim.ev,T.val] at hr
 | c u =>
  obtain ⟨e,_⟩:=hdt.scalar
  simp only [Prim.ev,T.val,Option.bind_some,Option.bind_eq_some_iff,Option.some.injEq] at hr
  obtain ⟨r',hb,rfl⟩:=hr
  obtain ⟨hrun,hs⟩:=run_unV (P:=P) (w:=w) hb
  refine ⟨r',rfl,hs,?_⟩
  unfold execOp;rw [ho]
  show Sem.run P (do let v ← Op.unary op (a.eval x);pure (Next.value v)) w=_
  rw [e,Sem.run_bind,hrun];rfl
theorem strOf_fold (ns:List Int):∀ s:ByteArray,ns.foldl (fun r n=>r.push (UInt8.ofNat n.toNat)) s=⟨s.data++(ns.map fun n=>UInt8.ofNat n.toNat).toArray⟩:=by
 induction ns with
 | nil=>intro s;simp
 | cons n ns ih=>intro s;rw [List.foldl_cons,ih];simp [ByteArray.push]
theorem strOf_eq (ns:List Int):ns.foldl (fun r n=>r.push (UInt8.ofNat n.toNat)) ByteArray.empty=strOf ns:=by
 rw [strOf_fold];unfold strOf;congr 1;exact Array.empty_append
theorem bytesOf_at:∀ {xs:List (List T)} {ns:List Int},bytesOf xs=some ns→ns.length=xs.length∧∀ (j:Nat) (n:Int),ns[j]?=some n→xs[j]?=some [T.c (.int .u8 n)]
 | [],ns,h=>by
  simp only [bytesOf,Option.some.injEq] at h
  subst h
  exact ⟨rfl,fun j n h=>by simp at h⟩
 | r :: rs,ns,h=>by
  simp only [bytesOf,Option.bind_eq_some_iff,Option.some.injEq] at h
  obtain ⟨n,h1,ns',h2,rfl⟩:=h
  obtain ⟨g1,g2⟩:=bytesOf_at h2
  refine ⟨by simp [g1],fun j m hj=>?_⟩
  cases j with
  | zero =>
   simp only [List.getElem?_cons_zero,Option.some.injEq] at hj ⊢
   subst hj
   unfold byteOf at h1
   split at h1
   ·cases h1;rfl
   ·cases h1
  | succ j=>simpa using g2 j m (by simpa using hj)
theorem den_bytes {ω:Nat→Option Lb} {xs:List (List T)} {v:Value} {ns:List Int} (h:Den ω w (.l xs) v) (hb:bytesOf xs=some ns):(Conv.bytesToString v).run P w=.ok (.string (strOf ns)) w:=by
 obtain ⟨hlen,hat⟩:=bytesOf_at hb
 rw [← strOf_eq]
 cases h with
 | nil =>
  have:ns=[]:=List.eq_nil_of_length_eq_zero hlen
  subst this
  rename_i a0 cap
  cases a0 with
  | none=>simp [Conv.bytesToString,Sem.run_pure]
  | some b=>exact run_bytesToString w b 0 cap [] (run_loadCells_list w b [] fun j v hj=>by simp at hj)
 | l hw hc hn hlt h1 h2 =>
  rename_i b off wd cap cv
  refine run_bytesToString w _ _ _ ns ?_
  rw [← hlen,← List.length_map (f:=Value.int .u8)]
  refine run_loadCells_list w _ _ fun j v hj=>?_
  rw [List.getElem?_map,Option.map_eq_some_iff] at hj
  obtain ⟨n,hj,rfl⟩:=hj
  have hx:=hat j n hj
  have hwd:wd=1:=by
   have:=hw _ (List.mem_of_getElem? hx)
   simpa using this.symm
  subst hwd
  have h3:at2 xs j 0=some (.c (.int .u8 n)):=by simp [at2,hx]
  have h5:=h1 j 0 _ h3
  rw [(h2 j 0 _ h3).scalar.1] at h5
  rw [Addr.add_lit,show off+j=off+(j * 1+0) by omega]
  exact h5
theorem st_convert (tys:TyAll P cx) (h:Rel M B d up s ρ G a w) (hn:∀ n,o.dst=some n→n < a.tmps.size) {t1 t2:TypeId} {x:Operand} (ho:o.op=.convert t1 t2 x)
  (hk:stepOp cx fid rid d o oi ⟨s.only R,[],ct,[]⟩=some k') (hd:k'.Done S ρ):Goal P M B d up ρ a w s o k'.w Q∧k'.ct.i=ct.i:=by
 have hw:=WOk.start h R ct
 simp only [stepOp,ho,Option.bind_eq_some_iff] at hk
 obtain ⟨si,hsi,ti,hti,⟨k1,y⟩,h1,hk⟩:=hk
 split at hk
 ·rename_i kk z hz
  cases hb:(Nat.beq ti.kd 1 && Nat.beq si.kd 1) with
  | false=>rw [hb] at hk;cases hk
  | true =>
   rw [hb] at hk
   simp only [cond_true,Option.some.injEq] at hk
   subst hk
   rw [Bool.and_eq_true] at hb
   have hu2:=(tys.ty _ _ hti).ik (Nat.eq_of_beq_eq_true hb.1) kk z hz
   obtain ⟨k0,hu1⟩:=(tys.ty _ _ hsi).it (Nat.eq_of_beq_eq_true hb.2)
   refine fin1 h hn hw h1 (hw.opn x).1 hd fun t r hdt hr=>?_
   cases t with
   | l _=>simp [Prim.ev] at hr
   | c u =>
    obtain ⟨e,_⟩:=hdt.scalar
    cases u <;> simp only [Prim.ev,Option.some.injEq] at hr <;> try cases hr
    rename_i k3 n hsc
    refine ⟨_,rfl,rfl,?_⟩
    unfold execOp;rw [ho]
    show Sem.run P (do let v ← convert t1 t2 (a.eval x);pure (Next.value v)) w=_
    rw [e,Sem.run_bind]
    have:(convert t1 t2 (.int k3 n)).run P w=.ok (.int kk (kk.wrap n)) w:=by
     unfold convert
     simp only [Sem.run_bind,run_underlying hu1,run_underlying hu2,Result.andThen_ok]
     rfl
    rw [this];rfl
 ·rename_i z hz
  cases hb:(Nat.beq ti.kd 2 && Nat.beq si.kd 3) with
  | false=>rw [hb] at hk;cases hk
  | true =>
   rw [hb] at hk
   simp only [cond_true,Option.bind_eq_some_iff] at hk
   obtain ⟨te,hte,hk⟩:=hk
   split at hk
   ·rename_i z2 hz2
    cases hb2:Nat.beq te.kd 1 with
    | false=>rw [hb2] at hk;cases hk
    | true =>
     rw [hb2] at hk
     simp only [cond_true,Option.some.injEq] at hk
     subst hk
     rw [Bool.and_eq_true] at hb
     have hu1:=(tys.ty _ _ hsi).sl (Nat.eq_of_beq_eq_true hb.2)
     have hu2:=(tys.ty _ _ hti).st (Nat.eq_of_beq_eq_true hb.1)
     have hu3:=(tys.ty _ _ hte).ik (Nat.eq_of_beq_eq_true hb2) .u8 z2 hz2
     refine fin1 h hn hw h1 (hw.opn x).1 hd fun t r hdt hr=>?_
     cases t with
     | c u=>simp [Prim.ev] at hr
     | l xs =>
      simp only [Prim.ev,Option.bind_eq_some_iff,Option.some.injEq] at hr
      obtain ⟨ns,hns,rfl⟩:=hr
      refine ⟨_,rfl,rfl,?_⟩
      unfold execOp;rw [ho]
      show Sem.run P (do let v ← convert t1 t2 (a.eval x);pure (Next.value v)) w=_
      rw [Sem.run_bind]
      obtain ⟨b,c,e,_⟩:=hdt.rows
      have:(convert t1 t2 (a.eval x)).run P w=.ok (.string (strOf ns)) w:=by
       have h0:=den_bytes (P:=P) hdt hns
       rw [e] at h0 ⊢
       rw [run_convert_bytes_string w t1 t2 si.el b xs.length c hu1 hu3 hu2]
       exact h0
      rw [this];rfl
   ·cases hk
 ·cases hk
theorem run_value {x:Sem Value} {v:Value} (h:x.run P w=.ok v w):(do let v ← x;pure (Next.value v):Sem Next).run P w=.ok (.value v) w:=by
 rw [Sem.run_bind,h];rfl
theorem run_builtin {c:Call} {b:Builtin} (ho:o.op=.call c) (hc:c.callee=.builtin b) {r:Result Next}
  (h:(builtin b c.argTypes o.type (c.args.map fun | .const _=>true | _=>false) (c.args.map a.eval)).run P w=r):(execOp a.eval o).run P w=r:=by
 unfold execOp
 rw [ho]
 show Sem.run P (do let d ← resolve a.eval c o.type;invoke d.target d.args) w=r
 simp only [resolve,hc]
 exact h
theorem st_len3 (h:Rel M B d up s ρ G a w) (hn:∀ n,o.dst=some n→n < a.tmps.size) (tys:TyAll P cx) {c:Call} {x:Operand} (ho:o.op=.call c) (hc:c.callee=.builtin .len) (hargs:c.args.toList=[x])
  {ti:TI} (ht:(c.argTypes[0]?).bind cx.ty=some ti) (hkd:ti.kd=3) {k k1:Wk} {G1:Gh} {y:Lf} (hw:WOk M B d up ρ G a w k G1)
  (h1:k.one (opnd d k.get x)=some (k1,y)) (hd:(putW d o (k1.em .len [y]).1 (.v false [.p (k1.em .len [y]).2])).Done S ρ) :
  Goal P M B d up ρ a w s o (putW d o (k1.em .len [y]).1 (.v false [.p (k1.em .len [y]).2])).w Q∧(putW d o (k1.em .len [y]).1 (.v false [.p (k1.em .len [y]).2])).ct.i=k.ct.i:=by
 refine fin1 h hn hw h1 (hw.opn x).1 hd fun t r hdt hr=>?_
 have hA:c.args=#[x]:=Array.ext' hargs
 cases ht0:c.argTypes[0]? with
 | none=>simp [ht0] at ht
 | some tt =>
  have hT:=tys.ty tt ti (by simpa [ht0] using ht)
  have hu:=hT.sl hkd
  cases t with
  | l xs =>
   obtain ⟨b,cap,e,_⟩:=hdt.rows
   simp only [Prim.ev,Option.some.injEq] at hr
   subst hr
   refine ⟨_,rfl,rfl,run_builtin ho hc ?_⟩
   rw [hA]
   refine run_value ?_
   simp [e,Builtin.len_,ht0,run_underlying hu,goInt]
  | c v=>simp [Prim.ev] at hr
theorem st_len2 (h:Rel M B d up s ρ G a w) (hn:∀ n,o.dst=some n→n < a.tmps.size) (tys:TyAll P cx) {c:Call} {x:Operand} (ho:o.op=.call c) (hc:c.callee=.builtin .len) (hargs:c.args.toList=[x])
  {ti:TI} (ht:(c.argTypes[0]?).bind cx.ty=some ti) (hkd:ti.kd=2) {k k1:Wk} {G1:Gh} {y:Lf} (hw:WOk M B d up ρ G a w k G1)
  (h1:k.one (opnd d k.get x)=some (k1,y)) (hd:(putW d o (k1.em .lens [y]).1 (.v false [.p (k1.em .lens [y]).2])).Done S ρ) :
  Goal P M B d up ρ a w s o (putW d o (k1.em .lens [y]).1 (.v false [.p (k1.em .lens [y]).2])).w Q∧(putW d o (k1.em .lens [y]).1 (.v false [.p (k1.em .lens [y]).2])).ct.i=k.ct.i:=by
 refine fin1 h hn hw h1 (hw.opn x).1 hd fun t r hdt hr=>?_
 have hA:c.args=#[x]:=Array.ext' hargs
 cases ht0:c.argTypes[0]? with
 | none=>simp [ht0] at ht
 | some tt =>
  have hT:=tys.ty tt ti (by simpa [ht0] using ht)
  have hu:=hT.st hkd
  cases t with
  | l xs=>simp [Prim.ev] at hr
  | c v =>
   obtain ⟨e,hs⟩:=hdt.scalar
   cases v with
   | string str =>
    simp only [Prim.ev,Option.some.injEq] at hr
    subst hr
    refine ⟨_,rfl,rfl,run_builtin ho hc ?_⟩
    rw [hA]
    refine run_value ?_
    simp [e,Builtin.len_,ht0,run_underlying hu,goInt]
   | _=>simp [Prim.ev] at hr
theorem st_mx (h:Rel M B d up s ρ G a w) (hn:∀ n,o.dst=some n→n < a.tmps.size) {c:Call} {x x':Operand} (ho:o.op=.call c) (hargs:c.args.toList=[x,x'])
  {p:Prim} (hc:c.callee=.builtin .max∧p=.mx∨c.callee=.builtin .min∧p=.mn) {k k1 k2:Wk} {G1:Gh} {y y':Lf} (hw:WOk M B d up ρ G a w k G1)
  (h1:k.one (opnd d k.get x)=some (k1,y)) (h2:k1.one (opnd d k.get x')=some (k2,y')) (hd:(putW d o (k2.em p [y,y']).1 (.v false [.p (k2.em p [y,y']).2])).Done S ρ) :
  Goal P M B d up ρ a w s o (putW d o (k2.em p [y,y']).1 (.v false [.p (k2.em p [y,y']).2])).w Q∧(putW d o (k2.em p [y,y']).1 (.v false [.p (k2.em p [y,y']).2])).ct.i=k.ct.i:=by
 refine fin2 h hn hw h1 h2 (hw.opn x).1 (hw.opn x').1 hd fun t t' r hdt hdt' hr=>?_
 have hA:c.args=#[x,x']:=Array.ext' hargs
 cases t with
 | l _=>rcases hc with ⟨_,rfl⟩ | ⟨_,rfl⟩ <;> simp [Prim.ev] at hr
 | c u =>
  cases t' with
  | l _=>rcases hc with ⟨_,rfl⟩ | ⟨_,rfl⟩ <;> cases u <;> simp [Prim.ev] at hr
  | c u' =>
   obtain ⟨e,_⟩:=hdt.scalar
   obtain ⟨e',_⟩:=hdt'.scalar
   cases u <;> cases u' <;> rcases hc with ⟨hc,rfl⟩ | ⟨hc,rfl⟩ <;> simp only [Prim.ev,Option.some.injEq] at hr <;> try cases hr
   ·exact ⟨_,rfl,rfl,run_builtin ho hc (by rw [hA];simp [builtin,Builtin.max_,Builtin.max2,e,e'])⟩
   ·exact ⟨_,rfl,rfl,run_builtin ho hc (by rw [hA];simp [builtin,Builtin.min_,Builtin.min2,e,e'])⟩
theorem run_op {x:Sem Value} {v:Value} (he:execOp a.eval o=(do let v ← x;pure (Next.value v))) (h:x.run P w=.ok v w):(execOp a.eval o).run P w=.ok (.value v) w:=by
 rw [he];exact run_value h
theorem st_idx (h:Rel M B d up s ρ G a w) (hn:∀ n,o.dst=some n→n < a.tmps.size) {x x':Operand} {t:TypeId} (ho:o.op=.index t x x') (tys:TyAll P cx) {ti:TI} (ht:cx.ty t=some ti) (hkd:ti.kd=2)
  {k k1 k2:Wk} {G1:Gh} {y y':Lf} (hw:WOk M B d up ρ G a w k G1)
  (h1:k.one (opnd d k.get x)=some (k1,y)) (h2:k1.one (opnd d k.get x')=some (k2,y')) (hd:(putW d o (k2.em .idx [y,y']).1 (.v false [.p (k2.em .idx [y,y']).2])).Done S ρ) :
  Goal P M B d up ρ a w s o (putW d o (k2.em .idx [y,y']).1 (.v false [.p (k2.em .idx [y,y']).2])).w Q∧(putW d o (k2.em .idx [y,y']).1 (.v false [.p (k2.em .idx [y,y']).2])).ct.i=k.ct.i:=by
 refine fin2 h hn hw h1 h2 (hw.opn x).1 (hw.opn x').1 hd fun t1 t2 r hdt hdt' hr=>?_
 have hu:=(tys.ty _ _ ht).st hkd
 cases t1 with
 | l _=>cases t2 <;> simp [Prim.ev] at hr
 | c u =>
  cases t2 with
  | l _=>cases u <;> simp [Prim.ev] at hr
  | c u' =>
   obtain ⟨e,_⟩:=hdt.scalar
   obtain ⟨e',_⟩:=hdt'.scalar
   cases u with
   | string str =>
    cases u' with
    | int kk n =>
     simp only [Prim.ev] at hr
     split at hr
     ·rename_i h0
      split at hr
      ·rename_i hlt
       simp only [Option.some.injEq] at hr
       subst hr
       refine ⟨_,rfl,rfl,run_op (x:=Instr.index t (a.eval x) (a.eval x')) (by unfold execOp;rw [ho]) ?_⟩
       have hg:str[n.toNat]?=some (str.get n.toNat hlt):=by
        simp [getElem?_pos,hlt];rfl
       simp [Instr.index,e,e',asIntOf,run_underlying hu,h0,hg]
      ·cases hr
     ·cases hr
    | _=>simp [Prim.ev] at hr
   | _=>cases u' <;> simp [Prim.ev] at hr
theorem st_nil (h:Rel M B d up s ρ G a w) (hn:∀ n,o.dst=some n→n < a.tmps.size) {x:Operand} (ho:o.op=.nilCheck x)
  (hk:stepOp cx fid rid d o oi ⟨s.only R,[],ct,[]⟩=some k'):Goal P M B d up ρ a w s o k'.w Q∧k'.ct.i=ct.i:=by
 have hw:=WOk.start h R ct
 obtain ⟨hr,hm⟩:=hw.opn x
 have key:∀ (v:SV) (ad:Addr),opnd d (Wk.get ⟨s.only R,[],ct,[]⟩) x=v→a.eval x=.pointer (some ad)→some (putW d o ⟨s.only R,[],ct,[]⟩ v)=some k'→Goal P M B d up ρ a w s o k'.w Q∧k'.ct.i=ct.i:=by
  intro v ad hv he hk
  cases hk
  refine ⟨value_stepP h hw hn (v:=.pointer (some ad)) ?_ (by rw [← he,← hv];exact hr) (by rw [← hv];exact hm) Q,by rw [putW_i]⟩
  unfold execOp
  rw [ho]
  show Sem.run P (match a.eval x with | .pointer none | .nilIface | .nilFunc=>runtimePanic .nilDeref | .func (.method name) first captured=>_ | x=>pure (Next.value x)) w=_
  rw [he];rfl
 simp only [stepOp,ho] at hk
 split at hk
 ·rename_i bx off hv
  rw [hv] at hr
  exact key _ _ hv hr hk
 ·rename_i id q ix wd off hv
  rw [hv] at hr
  obtain ⟨p,b,n,cap,i,_,_,_,_,he⟩:=hr
  exact key _ _ hv he hk
 ·rename_i s' ix wd off hv
  rw [hv] at hr
  obtain ⟨xs,i,r,b,base,_,_,_,he,_⟩:=hr
  exact key _ _ hv he hk
 ·cases hk
theorem st_extract (h:Rel M B d up s ρ G a w) (hn:∀ n,o.dst=some n→n < a.tmps.size) {x:Operand} {i:Nat} (ho:o.op=.extract x i)
  (hk:stepOp cx fid rid d o oi ⟨s.only R,[],ct,[]⟩=some k'):Goal P M B d up ρ a w s o k'.w Q∧k'.ct.i=ct.i:=by
 have hw:=WOk.start h R ct
 obtain ⟨hr,hm⟩:=hw.opn x
 simp only [stepOp,ho] at hk
 split at hk
 ·rename_i vs hv
  rw [hv] at hr hm
  simp only [Option.bind_eq_some_iff,Option.some.injEq] at hk
  obtain ⟨u,hu,hk⟩:=hk
  have hk2:putW d o ⟨s.only R,[],ct,[]⟩ (.v u.1 u.2)=k':=hk
  subst hk2
  obtain ⟨us,he,hvs⟩:=hr
  have main:∀ (vs:List (Bool × List Ce)) (us:List Value) (i:Nat) (u:Bool × List Ce),RelTp G w ρ vs us→vs[i]?=some u →
    ∃ v,us[i]?=some v∧RelVal G w ρ u.1 u.2 v∧∀ j∈idsCs u.2,j∈idsTp vs:=by
   intro vs
   induction vs with
   | nil=>intro us i u _ hi;simp at hi
   | cons y vs ih =>
    intro us i u hr hi
    cases us with
    | nil=>exact hr.elim
    | cons z us =>
     cases i with
     | zero=>simp at hi;subst hi;exact ⟨z,rfl,hr.1,fun j hj=>by simp [idsTp,hj]⟩
     | succ i =>
      obtain ⟨v,h1,h2,h3⟩:=ih us i u hr.2 (by simpa using hi)
      exact ⟨v,by simpa using h1,h2,fun j hj=>by simp [idsTp,h3 j hj]⟩
  obtain ⟨v,h1,h2,h3⟩:=main vs us i u hvs hu
  refine ⟨value_stepP h hw hn (v:=v) (x:=.v u.1 u.2) (run_op (x:=Instr.extract (a.eval x) i) (by unfold execOp;rw [ho]) ?_) h2 (fun j hj=>hm j (h3 j hj)) Q,by rw [putW_i]⟩
  rw [he]
  simp [Instr.extract,h1]
 ·cases hk
theorem st_field (tys:TyAll P cx) (h:Rel M B d up s ρ G a w) (hn:∀ n,o.dst=some n→n < a.tmps.size) {x:Operand} {t f:Nat} (ho:o.op=.fieldAddr t x f)
  (hk:stepOp cx fid rid d o oi ⟨s.only R,[],ct,[]⟩=some k'):Goal P M B d up ρ a w s o k'.w Q∧k'.ct.i=ct.i:=by
 have hw:=WOk.start h R ct
 obtain ⟨hr,hm⟩:=hw.opn x
 simp only [stepOp,ho,Option.bind_eq_some_iff,Option.some.injEq] at hk
 obtain ⟨v,hv,hk⟩:=hk
 have hk2:putW d o ⟨s.only R,[],ct,[]⟩ v=k':=hk
 subst hk2
 have run:∀ (ti:TI) (of:Nat × Nat) (b oo:Nat),cx.ty t=some ti→ti.fs[f]?=some of→a.eval x=.pointer (some ⟨b,oo,none⟩) →
   (execOp a.eval o).run P w=.ok (.value (.pointer (some ⟨b,oo+of.1,none⟩))) w:=by
  intro ti of b oo hti hf he
  obtain ⟨fs,fld,i,h1,h2,h3,h4,h5,_⟩:=(tys.ty _ _ hti).fs f of hf
  refine run_op (x:=Instr.fieldAt t (a.eval x) f) (by unfold execOp;rw [ho]) ?_
  simp [Instr.fieldAt,run_underlying h1,h2,he,Instr.sureAddr,fieldPlace,sizeOf,typeInfo,h4,h5,h3,Addr.add_lit]
 unfold fieldAt at hv
 split at hv
 ·rename_i bx off hop
  rw [hop] at hr hm
  simp only [Option.bind_eq_some_iff,Option.some.injEq] at hv
  obtain ⟨ti,hti,of,hf,rfl⟩:=hv
  exact ⟨value_stepP h hw hn (x:=.pt bx (off+of.1)) (run ti of _ _ hti hf hr) rfl hm Q,by rw [putW_i]⟩
 ·rename_i id q ix wd off hop
  rw [hop] at hr hm
  simp only [Option.bind_eq_some_iff,Option.some.injEq] at hv
  obtain ⟨ti,hti,of,hf,rfl⟩:=hv
  obtain ⟨p,b,n,cap,i,h1,h2,h3,h4,he⟩:=hr
  exact ⟨value_stepP h hw hn (x:=.ep id q ix wd (off+of.1)) (run ti of _ _ hti hf he) ⟨p,b,n,cap,i,h1,h2,h3,h4,by rw [Nat.add_assoc]⟩ hm Q,by rw [putW_i]⟩
 ·rename_i s' ix wd off hop
  rw [hop] at hr hm
  simp only [Option.bind_eq_some_iff,Option.some.injEq] at hv
  obtain ⟨ti,hti,of,hf,rfl⟩:=hv
  obtain ⟨xs,i,r,b,base,h1,h2,h3,he,h5⟩:=hr
  exact ⟨value_stepP h hw hn (x:=.fp s' ix wd (off+of.1)) (run ti of _ _ hti hf he) ⟨xs,i,r,b,base,h1,h2,h3,by rw [Nat.add_assoc],h5⟩ hm Q,by rw [putW_i]⟩
 ·cases hv
theorem Den.one {ω:Nat→Option Lb} {t:T} {v:Value} (h:Den ω w t v):v.oneCell'=true:=by
 cases h with
 | c h=>cases v <;> simp_all [scV,Value.oneCell']
 | nil=>rfl
 | l=>rfl
theorem RelCe.one {e:Ce} {v:Value} (h:RelCe G w ρ e v):v.oneCell'=true:=by
 cases e with
 | p x=>obtain ⟨t,_,h⟩:=h;exact h.one
 | o id q=>obtain ⟨p,_,rfl⟩:=h;obtain ⟨x,n,c,h⟩:=G.hs id p;rw [h];rfl
 | n=>cases h;rfl
 | d=>exact h
theorem not_agg {v:Value} (h:v.oneCell'=true):∀ x,v≠.agg x:=fun x e=>by subst e;cases h
theorem RelCs.length:∀ {cs:List Ce} {vs:List Value},RelCs G w ρ cs vs→cs.length=vs.length
 | [],[],_=>rfl
 | [],_ :: _,h=>h.elim
 | _ :: _,[],h=>h.elim
 | _ :: cs,_ :: vs,h=>by simp [RelCs.length h.2]
theorem RelCs.drop:∀ {cs:List Ce} {vs:List Value} (n:Nat),RelCs G w ρ cs vs→RelCs G w ρ (cs.drop n) (vs.drop n)
 | _,_,0,h=>h
 | [],[],n+1,_=>trivial
 | [],_ :: _,_,h=>h.elim
 | _ :: _,[],_,h=>h.elim
 | _ :: cs,_ :: vs,n+1,h=>RelCs.drop n h.2
theorem RelCs.take:∀ {cs:List Ce} {vs:List Value} (n:Nat),RelCs G w ρ cs vs→RelCs G w ρ (cs.take n) (vs.take n)
 | _,_,0,h=>trivial
 | [],[],n+1,_=>trivial
 | [],_ :: _,_,h=>h.elim
 | _ :: _,[],_,h=>h.elim
 | _ :: cs,_ :: vs,n+1,h=>⟨h.1,RelCs.take n h.2⟩
theorem RelCs.one:∀ {cs:List Ce} {vs:List Value},RelCs G w ρ cs vs→∀ v∈vs,v.oneCell'=true
 | [],[],_,v,hv=>by cases hv
 | [],_ :: _,h,_,_=>h.elim
 | _ :: _,[],h,_,_=>h.elim
 | _ :: cs,_ :: vs,h,v,hv=>by
  cases hv with
  | head=>exact h.1.one
  | tail _ hv=>exact RelCs.one h.2 v hv
theorem idsCs_drop (cs:List Ce) (n:Nat):∀ i∈idsCs (cs.drop n),i∈idsCs cs:=by
 induction cs generalizing n with
 | nil=>intro i hi;simp at hi;exact hi
 | cons c cs ih =>
  intro i hi
  cases n with
  | zero=>exact hi
  | succ n=>rw [idsCs_cons];exact List.mem_append_right _ (ih n i (by simpa using hi))
theorem idsCs_take (cs:List Ce) (n:Nat):∀ i∈idsCs (cs.take n),i∈idsCs cs:=by
 induction cs generalizing n with
 | nil=>intro i hi;simp at hi;exact hi
 | cons c cs ih =>
  intro i hi
  cases n with
  | zero=>simp [idsCs] at hi
  | succ n =>
   rw [List.take_succ_cons,idsCs_cons] at hi
   rw [idsCs_cons]
   rcases List.mem_append.1 hi with hi | hi
   ·exact List.mem_append_left _ hi
   ·exact List.mem_append_right _ (ih n i hi)
theorem run_loadAt {t:Nat} {ti:TI} (hT:TyOk P t ti) {b off:Nat} {vs:List Value} (hl:vs.length=ti.sz)
  (hc:∀ j v,vs[j]?=some v→w.cell? ⟨b,off+j,none⟩=some v) :
  (Instr.loadAt t (.pointer (some ⟨b,off,none⟩))).run P w=.ok (if ti.ag then .agg vs.toArray else vs.getD 0 undef) w:=by
 obtain ⟨i,z,hi,hs,_,_,_⟩:=hT.info
 obtain ⟨u,hu,hag,harr⟩:=hT.ag
 have hcells:(loadCells ⟨b,off,none⟩ vs.length).run P w=.ok vs.toArray w :=
  run_loadCells_list w _ vs fun j v hj=>by rw [Addr.add_lit];exact hc j v hj
 cases hb:ti.ag with
 | true =>
  obtain ⟨fs,rfl⟩:=hag.1 hb
  simp [Instr.loadAt,Instr.sureAddr,loadVar,isAgg,run_underlying hu,sizeOf,typeInfo,hi,hs,← hl,hcells]
 | false =>
  have h1:=hT.one hb
  obtain ⟨v,rfl⟩:∃ v,vs=[v]:=by
   cases vs with
   | nil=>simp at hl;omega
   | cons v vs=>cases vs with
    | nil=>exact ⟨v,rfl⟩
    | cons _ _=>simp at hl;omega
  have hc0:=hc 0 v rfl
  have hna:(isAgg t).run P w=.ok false w:=by
   simp only [isAgg,Sem.run_bind,run_underlying hu,Result.andThen_ok]
   cases u with
   | struct fs=>have:=hag.2 ⟨fs,rfl⟩;rw [hb] at this;cases this
   | array n e=>exact absurd rfl (harr n e)
   | _=>rfl
  simp only [Nat.add_zero] at hc0
  simp [Instr.loadAt,Instr.sureAddr,loadVar,hna,hc0]
theorem load_rel {ti:TI} {t:Nat} (hT:TyOk P t ti) {G1:Gh} {cs:List Ce} {vs:List Value} (h:RelCs G1 w ρ cs vs) (hl:vs.length=ti.sz) :
  RelSV G1 w ρ (.v ti.ag cs) (if ti.ag then .agg vs.toArray else vs.getD 0 undef):=by
 cases hb:ti.ag with
 | true=>exact ⟨vs,rfl,h⟩
 | false =>
  have h1:=hT.one hb
  cases vs with
  | nil=>simp at hl;omega
  | cons v vs=>cases vs with
   | cons _ _=>simp at hl;omega
   | nil=>cases cs with
    | nil=>exact h.elim
    | cons c cs=>cases cs with
     | cons _ _=>exact h.2.elim
     | nil=>exact ⟨c,rfl,h.1,not_agg h.1.one⟩
theorem rowAt_ev {x ix:Lf} {xs:List (List T)} {i:Nat} (hx:x.evo ρ=some (.l xs)) (hi:stepI ρ ix=some i):rowAt (x.ev ρ) (ix.ev ρ)=xs[i]?:=by
 obtain ⟨k,hk⟩:=stepI_ev hi
 rw [Lf.evo_ev hx,hk,rowAt_int]
theorem Wk.row_same:∀ (n:Nat) (k:Wk) (sc:Bool) (x ix:Lf) (wd off:Nat),k.Same (k.row sc x ix wd off n).1
 | 0,k,_,_,_,_,_=>.refl k
 | n+1,k,sc,x,ix,wd,off=>by
  simp only [Wk.row]
  exact (Wk.em_same k _ _).trans (Wk.row_same n _ sc x ix wd (off+1))
theorem Wk.row_pre:∀ (n:Nat) (k:Wk) (sc:Bool) (x ix:Lf) (wd off:Nat),(k.row sc x ix wd off n).1.Done S ρ→k.Done S ρ
 | 0,_,_,_,_,_,_,h=>h
 | n+1,k,sc,x,ix,wd,off,h=>by
  simp only [Wk.row] at h
  exact (Wk.em_done (Wk.row_pre n _ sc x ix wd (off+1) h)).1
theorem cell_ev {x ix:Lf} {xs:List (List T)} {i wd off:Nat} {sc:Bool} {t:T} (hx:x.evo ρ=some (.l xs)) (hi:stepI ρ ix=some i)
  (h:Prim.ev (bif sc then .scell wd off else .cell wd off) [x.ev ρ,ix.ev ρ]=some t) :
  ∃ r,xs[i]?=some r∧r.length=wd∧r[off]?=some t∧(sc=true→scal t=true):=by
 cases sc with
 | false =>
  simp only [cond_false,Prim.ev,rowAt_ev hx hi] at h
  cases hr:xs[i]? with
  | none=>simp [hr] at h
  | some r =>
   simp only [hr,Option.bind_some] at h
   split at h
   ·rename_i hl;exact ⟨r,rfl,hl,h,fun hf=>by cases hf⟩
   ·cases h
 | true =>
  simp only [cond_true,Prim.ev,rowAt_ev hx hi] at h
  cases hr:xs[i]? with
  | none=>simp [hr] at h
  | some r =>
   simp only [hr,Option.bind_some] at h
   split at h
   ·rename_i hl
    cases ho:r[off]? with
    | none=>simp [ho] at h
    | some t' =>
     simp only [ho,Option.bind_some] at h
     split at h
     ·rename_i hs;cases h;exact ⟨r,rfl,hl,ho,fun _=>hs⟩
     ·cases h
   ·cases h
theorem Wk.row_rel {G1:Gh} {x ix:Lf} {xs:List (List T)} {i wd:Nat} {sc:Bool} (hx:x.evo ρ=some (.l xs)) (hi:stepI ρ ix=some i) {b base:Nat}
  (hrow:∀ r,xs[i]?=some r→r.length=wd→∀ j t,r[j]?=some t→(sc=true→scal t=true)→∃ u,w.cell? ⟨b,base+j,none⟩=some u∧Den G1.q w t u) :
  ∀ (n:Nat) (k:Wk) (off:Nat),(k.row sc x ix wd off n).1.Done S ρ →
   ∃ vs:List Value,vs.length=n∧(∀ j v,vs[j]?=some v→w.cell? ⟨b,base+off+j,none⟩=some v)∧RelCs G1 w ρ (k.row sc x ix wd off n).2 vs∧idsCs (k.row sc x ix wd off n).2=[]
 | 0,k,off,_=>⟨[],rfl,fun j v hj=>by simp at hj,trivial,rfl⟩
 | n+1,k,off,hd=>by
  simp only [Wk.row] at hd ⊢
  obtain ⟨_,t,ht,hy⟩:=Wk.em_done (Wk.row_pre n _ sc x ix wd (off+1) hd)
  obtain ⟨r,h1,h2,h3,h4⟩:=cell_ev hx hi ht
  obtain ⟨u,h5,h6⟩:=hrow r h1 h2 off t h3 h4
  obtain ⟨vs,g1,g2,g3,g4⟩:=Wk.row_rel hx hi hrow n _ (off+1) hd
  refine ⟨u :: vs,by simp [g1],fun j v hj=>?_,⟨⟨t,hy,h6⟩,g3⟩,by simp [idsCs,g4]⟩
  cases j with
  | zero=>simp at hj;subst hj;simpa using h5
  | succ j =>
   have:=g2 j v (by simpa using hj)
   rwa [show base+(off+1)+j=base+off+(j+1) by omega] at this
theorem pthO_snoc {ix:Lf} {wd off i:Nat} (hi:stepI ρ ix=some i):∀ {q:Pth} {p:List (Nat × Nat)},pthO ρ q=some p→pthO ρ (q++[(ix,wd,off)])=some (p++[(i,off)])
 | [],p,h=>by simp only [pthO] at h;cases h;simp [pthO,hi]
 | (z1,z2,z3) :: q,p,h=>by
  simp only [pthO] at h
  cases hs1:stepI ρ z1 with
  | none=>simp [hs1] at h
  | some i1 =>
   cases hs2:pthO ρ q with
   | none=>simp [hs1,hs2] at h
   | some p2 =>
    simp [hs1,hs2] at h
    subst h
    simp [pthO,hs1,pthO_snoc hi hs2]
theorem Own.row {G1:Gh} {id:Nat} {dp:Bool} {p:List (Nat × Nat)} {xs:List (List T)} {b n cap i wd:Nat} {r:List T} (h:Own G1 w id dp p (.l xs))
  (hH:G1.H id p=.slice (some ⟨b,0,none⟩) n cap) (hr:xs[i]?=some r) (hl:r.length=wd) (j:Nat) (t:T) (ht:r[j]?=some t) :
  ∃ v,w.cell? ⟨b,i * wd+j,none⟩=some v∧(∀ u,t=.c u→v=u∧scV u=true)∧(∀ ys,t=.l ys→dp=false→Den G1.q w t v)∧(∀ ys,t=.l ys→dp=true→v=G1.H id (p++[(i,j)])):=by
 cases h with
 | nil h=>simp at hr
 | @l _ _ _ b' wd' cap' arr elem cv g1 g2 g3 g4 g5 g6 g7 g8 g9 g10 g11 =>
  rw [hH] at g1
  cases g1
  have hw:wd'=wd:=by rw [← hl,g6 r (List.mem_of_getElem? hr)]
  subst hw
  have hat:at2 xs i j=some t:=by simp [at2,hr,ht]
  refine ⟨cv i j,by rw [cell_row g4];exact g7 i j t hat,fun u hu=>?_,fun ys hy hd=>?_,fun ys hy hd=>?_⟩
  ·subst hu;exact g8 i j u hat
  ·subst hy;exact g9 i j ys hat hd
  ·subst hy;exact g10 i j ys hat hd
theorem scal_c {t:T} (h:scal t=true):∃ v,t=.c v:=by
 cases t with
 | c v=>exact ⟨v,rfl⟩
 | l _=>simp [scal] at h
theorem Den.row {ω:Nat→Option Lb} {xs:List (List T)} {b o n cap i wd:Nat} {r:List T} (h:Den ω w (.l xs) (.slice (some ⟨b,o,none⟩) n cap))
  (hr:xs[i]?=some r) (hl:r.length=wd):ω b=none∧b < w.heap.size∧∀ (j:Nat) (t:T),r[j]?=some t→∃ v,w.cell? ⟨b,o+i * wd+j,none⟩=some v∧Den ω w t v:=by
 generalize hv:Value.slice (some (⟨b,o,none⟩:Addr)) n cap=v at h
 cases h with
 | nil=>simp at hr
 | @l _ b' off' wd' cap' cv h1 h2 h3 h4 h5 h6 =>
  cases hv
  have hw:wd'=wd:=by rw [← hl,h1 r (List.mem_of_getElem? hr)]
  subst hw
  refine ⟨h3,h4,fun j t ht=>?_⟩
  have hat:at2 xs i j=some t:=by simp [at2,hr,ht]
  exact ⟨cv i j,by rw [Nat.add_assoc];exact h5 i j t hat,h6 i j t hat⟩
theorem Wk.rowN_same:∀ (zs:List Ce) (k:Wk) (y ix:Lf) (id:Nat) (q:Pth) (wd off:Nat),k.Same (k.rowN y ix id q wd off zs).1
 | [],k,_,_,_,_,_,_=>.refl k
 | z :: zs,k,y,ix,id,q,wd,off=>by
  unfold Wk.rowN
  cases isN z with
  | true=>exact (Wk.em_same k _ _).trans (Wk.rowN_same zs _ y ix id q wd (off+1))
  | false=>exact (Wk.em_same k _ _).trans (Wk.rowN_same zs _ y ix id q wd (off+1))
theorem Wk.rowN_pre:∀ (zs:List Ce) (k:Wk) (y ix:Lf) (id:Nat) (q:Pth) (wd off:Nat),(k.rowN y ix id q wd off zs).1.Done S ρ→k.Done S ρ
 | [],_,_,_,_,_,_,_,h=>h
 | z :: zs,k,y,ix,id,q,wd,off,h=>by
  unfold Wk.rowN at h
  cases hz:isN z with
  | true=>rw [hz] at h;exact (Wk.em_done (Wk.rowN_pre zs _ y ix id q wd (off+1) h)).1
  | false=>rw [hz] at h;exact (Wk.em_done (Wk.rowN_pre zs _ y ix id q wd (off+1) h)).1
theorem Wk.rowN_rel {G1:Gh} {y ix:Lf} {xs:List (List T)} {i wd id b base:Nat} {q:Pth} {p:List (Nat × Nat)} (hx:y.evo ρ=some (.l xs)) (hi:stepI ρ ix=some i) (hp:pthO ρ q=some p) (hodd:id % 2=1)
  (hrow:∀ r,xs[i]?=some r→r.length=wd→∀ j t,r[j]?=some t→∃ u,w.cell? ⟨b,base+j,none⟩=some u∧(∀ v,t=.c v→u=v∧scV v=true)∧∀ ys,t=.l ys→u=G1.H id (p++[(i,j)])) :
  ∀ (zs:List Ce) (k:Wk) (off:Nat),(k.rowN y ix id q wd off zs).1.Done S ρ →
   ∃ vs:List Value,vs.length=zs.length∧(∀ j v,vs[j]?=some v→w.cell? ⟨b,base+off+j,none⟩=some v)∧RelCs G1 w ρ (k.rowN y ix id q wd off zs).2 vs∧∀ j∈idsCs (k.rowN y ix id q wd off zs).2,j=id
 | [],k,off,_=>⟨[],rfl,fun j v hj=>by simp at hj,trivial,fun j hj=>by simp [Wk.rowN,idsCs] at hj⟩
 | z :: zs,k,off,hd=>by
  unfold Wk.rowN at hd ⊢
  cases hz:isN z with
  | true =>
   rw [hz] at hd
   simp only [cond_true] at hd ⊢
   obtain ⟨_,t,ht,_⟩:=Wk.em_done (Wk.rowN_pre zs _ _ _ _ _ _ (off+1) hd)
   obtain ⟨ys,rfl,hat,r,h1,h2⟩:=dig_ev hx hi ht
   have h3:r[off]?=some (.l ys):=by simpa [at2,h1] using hat
   obtain ⟨u,h5,_,h6⟩:=hrow r h1 h2 off _ h3
   obtain ⟨vs,g1,g2,g3,g4⟩:=Wk.rowN_rel hx hi hp hodd hrow zs _ (off+1) hd
   refine ⟨u :: vs,by simp [g1],fun j v hj=>?_,⟨⟨_,pthI_of (pthO_snoc hi hp) hodd,h6 ys rfl⟩,g3⟩,fun j hj=>?_⟩
   ·cases j with
    | zero=>simp at hj;subst hj;simpa using h5
    | succ j =>
     have:=g2 j v (by simpa using hj)
     rwa [show base+(off+1)+j=base+off+(j+1) by omega] at this
   ·simp only [idsCs,List.mem_cons] at hj
    rcases hj with hj | hj
    ·exact hj
    ·exact g4 j hj
  | false =>
   rw [hz] at hd
   simp only [cond_false] at hd ⊢
   obtain ⟨_,t,ht,hy⟩:=Wk.em_done (Wk.rowN_pre zs _ _ _ _ _ _ (off+1) hd)
   obtain ⟨r,h1,h2,h3,h4⟩:=cell_ev (sc:=true) hx hi ht
   obtain ⟨c,rfl⟩:=scal_c (h4 rfl)
   obtain ⟨u,h5,h6,_⟩:=hrow r h1 h2 off _ h3
   obtain ⟨rfl,hs⟩:=h6 c rfl
   obtain ⟨vs,g1,g2,g3,g4⟩:=Wk.rowN_rel hx hi hp hodd hrow zs _ (off+1) hd
   refine ⟨u :: vs,by simp [g1],fun j v hj=>?_,⟨⟨.c u,hy,.c hs⟩,g3⟩,fun j hj=>g4 j (by simpa [idsCs] using hj)⟩
   cases j with
   | zero=>simp at hj;subst hj;simpa using h5
   | succ j =>
    have:=g2 j v (by simpa using hj)
    rwa [show base+(off+1)+j=base+off+(j+1) by omega] at this
theorem st_load (tys:TyAll P cx) (h:Rel M B d up s ρ G a w) (hn:∀ n,o.dst=some n→n < a.tmps.size) {x:Operand} {t:Nat} (ho:o.op=.load t x)
  (hk:∃ k1 v,loadAt cx (cx.nest fid) ⟨s.only R,[],ct,[]⟩ t (opnd d (Wk.get ⟨s.only R,[],ct,[]⟩) x)=some (k1,v)∧putW d o k1 v=k') (hd:k'.Done S ρ):Goal P M B d up ρ a w s o k'.w Q∧k'.ct.i=ct.i:=by
 have hw:=WOk.start h R ct
 obtain ⟨hr,hm⟩:=hw.opn x
 obtain ⟨k1,v,hv,hk⟩:=hk
 have hk2:putW d o k1 v=k':=hk
 subst hk2
 have hd1:=putW_done.1 hd
 have exe:∀ {val:Value} {b off:Nat},a.eval x=.pointer (some ⟨b,off,none⟩)→(Instr.loadAt t (.pointer (some ⟨b,off,none⟩))).run P w=.ok val w→(execOp a.eval o).run P w=.ok (.value val) w:=by
  intro val b off he hl
  refine run_op (x:=Instr.loadAt t (a.eval x)) (by unfold execOp;rw [ho]) ?_
  rw [he];exact hl
 have byRow:∀ {k0:Wk} {G1:Gh} {ti:TI} {y ix:Lf} {xs:List (List T)} {i wd off b base:Nat} {sc:Bool},cx.ty t=some ti→WOk M B d up ρ G a w k0 G1→k0.ct.i=ct.i →
   y.evo ρ=some (.l xs)→stepI ρ ix=some i→a.eval x=.pointer (some ⟨b,base+off,none⟩) →
   (∀ r,xs[i]?=some r→r.length=wd→∀ j t,r[j]?=some t→(sc=true→scal t=true)→∃ u,w.cell? ⟨b,base+j,none⟩=some u∧Den G1.q w t u) →
   (k0.row sc y ix wd off ti.sz).1=k1→SV.v ti.ag (k0.row sc y ix wd off ti.sz).2=v→Goal P M B d up ρ a w s o (putW d o k1 v).w Q∧(putW d o k1 v).ct.i=ct.i:=by
  intro k0 G1 ti y ix xs i wd off b base sc hti hwk hi0 hy hi he hrow h1 h2
  subst h1 h2
  obtain ⟨vs,g1,g2,g3,g4⟩:=Wk.row_rel (S:=S) hy hi hrow ti.sz k0 off hd1
  have hT:=tys.ty _ _ hti
  refine ⟨value_stepP h (hwk.same (Wk.row_same _ _ _ _ _ _ _)) hn (exe he (run_loadAt hT g1 g2)) (load_rel hT g3 g1) (fun j hj=>by simp [idsSV,g4] at hj) Q,?_⟩
  rw [putW_i,(Wk.row_same ti.sz k0 sc y ix wd off).i,hi0]
 unfold loadAt at hv
 split at hv
 ·rename_i bx off hop
  rw [hop] at hr hm
  simp only [Option.bind_eq_some_iff] at hv
  obtain ⟨ti,hti,hv⟩:=hv
  split at hv
  ·rename_i ag cs hbx
   cases hle:Nat.ble (off+ti.sz) cs.length with
   | false=>simp [hle] at hv
   | true =>
    simp only [hle,cond_true,Option.some.injEq,Prod.mk.injEq] at hv
    obtain ⟨rfl,rfl⟩:=hv
    have hb:=hw.rel.bx bx
    rw [← Wk.get_sets,hbx] at hb
    obtain ⟨_,arr,elem,hh,hcs⟩:=hb
    have hT:=tys.ty _ _ hti
    have hcs2:=(hcs.drop off).take ti.sz
    have hlen:((arr.toList.drop off).take ti.sz).length=ti.sz:=by
     have:=hcs.length
     have:=Nat.le_of_ble_eq_true hle
     simp only [List.length_take,List.length_drop]
     omega
    refine ⟨value_stepP h hw hn (exe hr (run_loadAt hT hlen fun j v hj=>?_)) (load_rel hT hcs2 hlen) (fun j hj=>?_) Q,by rw [putW_i]⟩
    ·rw [cell_row hh]
     rw [List.getElem?_take] at hj
     split at hj
     ·rw [List.getElem?_drop] at hj;simpa using hj
     ·cases hj
    ·have hj2:=idsCs_drop cs off j (idsCs_take _ _ j hj)
     refine hw.rel.ment (.x bx) j ?_
     rw [← Wk.get_sets,hbx];exact hj2
  ·cases hv
 ·rename_i s' ix wd off hop
  rw [hop] at hr
  simp only [Option.bind_eq_some_iff,Option.some.injEq,Prod.mk.injEq] at hv
  obtain ⟨ti,hti,h1,h2⟩:=hv
  obtain ⟨xs,i,r,b,base,e1,e2,e3,e4,e5⟩:=hr
  refine byRow hti hw rfl e1 e2 e4 (fun r' hr' hl j t' ht _=>?_) h1 h2
  rw [e3] at hr'
  cases hr'
  exact (e5 hl).2.2 j t' ht
 ·rename_i id q ix wd off hop
  rw [hop] at hr
  simp only [Option.bind_eq_some_iff] at hv
  obtain ⟨ti,hti,hv⟩:=hv
  obtain ⟨p,b,n,cap,i,e1,e2,e3,e4,e5⟩:=hr
  have hob:=hw.obj id
  split at hv
  ·rename_i y hy
   rw [hy] at hob
   obtain ⟨tt,ht,hown⟩:=hob
   have htl:∃ ys,tt=.l ys:=by cases hown <;> exact ⟨_,rfl⟩
   cases hnest:(cx.nest fid && ti.zero.any isN && Nat.beq ti.zero.length ti.sz && Nat.beq (id % 2) 1) with
   | true =>
    simp only [hnest,cond_true,Option.some.injEq,Prod.mk.injEq] at hv
    obtain ⟨h1,h2⟩:=hv
    subst h1 h2
    have hodd:id % 2=1:=by
     simp only [Bool.and_eq_true] at hnest
     exact Nat.eq_of_beq_eq_true hnest.2
    have hzl:ti.zero.length=ti.sz:=by
     simp only [Bool.and_eq_true] at hnest
     exact Nat.eq_of_beq_eq_true hnest.1.2
    have hdd:=Wk.rowN_pre _ _ _ _ _ _ _ _ hd1
    obtain ⟨z,hz,hzv,hzl'⟩:=Wk.down_done q _ y hdd ht (pthI_O e1) (.inr htl)
    have hzl2:∃ ys,z=.l ys:=by
     rcases hzl' with rfl | h'
     ·simp only [pthI_nil] at e1;cases e1;simp [digp] at hz;subst hz;exact htl
     ·exact h'
    obtain ⟨zs,rfl⟩:=hzl2
    have hsub:=Own.dig p hown hz ⟨zs,rfl⟩
    simp only [List.nil_append] at hsub
    obtain ⟨vs,g1,g2,g3,g4⟩:=Wk.rowN_rel (S:=S) (b:=b) (base:=i * wd) (wd:=wd) hzv e3 (pthI_O e1) hodd (fun r hr' hl j t' ht'=>by
     obtain ⟨v',hc,ha,_,hb⟩:=hsub.row e2 hr' hl j t' ht'
     exact ⟨v',hc,ha,fun ys hy=>hb ys hy rfl⟩) ti.zero _ off hd1
    have hT:=tys.ty _ _ hti
    refine ⟨value_stepP h ((hw.same (Wk.down_same q _ y)).same (Wk.rowN_same _ _ _ _ _ _ _ _)) hn (exe e5 (run_loadAt hT (by rw [g1,hzl]) g2)) (load_rel hT g3 (by rw [g1,hzl])) (fun j hj=>?_) Q,?_⟩
    ·have:=g4 j (by simpa [idsSV] using hj)
     subst this
     rw [hop] at hm
     exact hm j (by simp [idsSV])
    ·rw [putW_i,(Wk.rowN_same _ _ _ _ _ _ _ _).i,(Wk.down_same q _ y).i]
   | false =>
    simp only [hnest,cond_false] at hv
    cases hz:ti.zero.any isN with
    | true =>
     simp only [hz,cond_true] at hv
     split at hv
     ·cases hev:Nat.beq (id % 2) 0 with
      | true =>
       simp only [hev,cond_true,Option.some.injEq,Prod.mk.injEq] at hv
       obtain ⟨h1,h2⟩:=hv
       have hev2:=Nat.eq_of_beq_eq_true hev
       simp only [pthI_nil] at e1
       cases e1
       obtain ⟨ys,rfl⟩:=htl
       refine byRow hti hw rfl ht e3 e5 (fun r hr' hl j t' ht' _=>?_) h1 h2
       obtain ⟨v',hc,ha,_,hb⟩:=hown.row e2 hr' hl j t' ht'
       refine ⟨v',hc,?_⟩
       cases t' with
       | c u=>obtain ⟨rfl,hs⟩:=ha u rfl;exact .c hs
       | l zs =>
        rw [hb zs rfl rfl]
        have hat:at2 ys i j=some (.l zs):=by simp [at2,hr',ht']
        have hsub:=Own.dig [(i,j)] hown (by simp [digp,hat]) ⟨zs,rfl⟩
        exact hsub.denq (.inr ⟨hev2,by simp⟩) rfl
      | false =>
      simp only [hev,cond_false] at hv
      simp only [Option.bind_eq_some_iff,Option.some.injEq,Prod.mk.injEq] at hv
      obtain ⟨k2,hk2,h1,h2⟩:=hv
      obtain ⟨G2,hw2,hβ,hH,hr2,hct,his⟩:=hw.flat hk2
      simp only [pthI_nil] at e1
      cases e1
      have hob2:=hw2.obj id
      have hg2:k2.get (.o id)=.ob false y:=by
       unfold Wk.flat at hk2
       rw [hy] at hk2
       cases hk2
       simp [Wk.get,Wk.set,St.look_set_self]
      rw [hg2] at hob2
      obtain ⟨tt2,ht2,hown2⟩:=hob2
      obtain ⟨ys,rfl⟩:∃ ys,tt2=.l ys:=by cases hown2 <;> exact ⟨_,rfl⟩
      refine byRow hti hw2 (by rw [hct]) ht2 e3 e5 (fun r hr' hl j t' ht' _=>?_) h1 h2
      obtain ⟨v',hc,ha,hb,_⟩:=hown2.row (by rw [hH];exact e2) hr' hl j t' ht'
      refine ⟨v',hc,?_⟩
      cases t' with
      | c u=>obtain ⟨rfl,hs⟩:=ha u rfl;exact .c hs
      | l zs=>exact hb zs rfl rfl
     ·cases hv
    | false =>
     simp only [hz,cond_false,Option.some.injEq,Prod.mk.injEq] at hv
     obtain ⟨h1,h2⟩:=hv
     subst h1 h2
     have hdd:=Wk.row_pre _ _ _ _ _ _ _ hd1
     obtain ⟨z,hz2,hzv,hzl⟩:=Wk.down_done q _ y hdd ht (pthI_O e1) (.inr htl)
     have hzl2:∃ ys,z=.l ys:=by
      rcases hzl with rfl | h'
      ·simp only [pthI_nil] at e1;cases e1;simp [digp] at hz2;subst hz2;exact htl
      ·exact h'
     obtain ⟨zs,rfl⟩:=hzl2
     have hsub:=Own.dig p hown hz2 ⟨zs,rfl⟩
     simp only [List.nil_append] at hsub
     refine byRow hti (hw.same (Wk.down_same q _ y)) (by rw [(Wk.down_same q _ y).i]) hzv e3 e5 (fun r hr' hl j t' ht' hsc=>?_) rfl rfl
     obtain ⟨v',hc,ha,_,_⟩:=hsub.row e2 hr' hl j t' ht'
     obtain ⟨u,rfl⟩:=scal_c (hsc rfl)
     obtain ⟨rfl,hs⟩:=ha u rfl
     exact ⟨_,hc,.c hs⟩
  ·rename_i y hy
   rw [hy] at hob
   split at hv
   ·simp only [Option.some.injEq,Prod.mk.injEq] at hv
    obtain ⟨h1,h2⟩:=hv
    obtain ⟨tt,ht,hown⟩:=hob
    obtain ⟨ys,rfl⟩:∃ ys,tt=.l ys:=by cases hown <;> exact ⟨_,rfl⟩
    simp only [pthI_nil] at e1
    cases e1
    refine byRow hti hw rfl ht e3 e5 (fun r hr' hl j t' ht' _=>?_) h1 h2
    obtain ⟨v',hc,ha,hb,_⟩:=hown.row e2 hr' hl j t' ht'
    refine ⟨v',hc,?_⟩
    cases t' with
    | c u=>obtain ⟨rfl,hs⟩:=ha u rfl;exact .c hs
    | l zs=>exact hb zs rfl rfl
   ·cases hv
  ·rename_i y hy
   rw [hy] at hob
   split at hv
   ·simp only [Option.some.injEq,Prod.mk.injEq] at hv
    obtain ⟨h1,h2⟩:=hv
    obtain ⟨tt,ht,hden,_⟩:=hob
    simp only [pthI_nil] at e1
    cases e1
    rw [e2] at hden
    obtain ⟨ys,rfl⟩:∃ ys,tt=.l ys:=by
     cases tt with
     | c v=>have:=hden.scalar;cases this.1 ▸ this.2
     | l ys=>exact ⟨ys,rfl⟩
    refine byRow (b:=b) (base:=i * wd) hti hw rfl ht e3 e5 (fun r hr' hl j t' ht' _=>?_) h1 h2
    obtain ⟨v',hc,hdn⟩:=(hden.row hr' hl).2.2 j t' ht'
    exact ⟨v',by simpa using hc,hdn⟩
   ·cases hv
  ·cases hv
 ·cases hv
theorem bnd_ev {x i:T} {r:T} (h:Prim.ev .bnd [x,i]=some r):∃ xs kk n,x=.l xs∧i=.c (.int kk n)∧0≤n∧∃ row,xs[n.toNat]?=some row:=by
 simp only [Prim.ev,rowAt,Option.bind_eq_some_iff] at h
 obtain ⟨row,⟨xs,hx,n,hn,hr⟩,_⟩:=h
 cases x with
 | c v=>simp [T.rows] at hx
 | l ys =>
  simp only [T.rows,Option.some.injEq] at hx
  subst hx
  cases i with
  | l _=>simp [T.int] at hn
  | c v =>
   cases v with
   | int kk m =>
    simp only [T.int,Option.some.injEq] at hn
    subst hn
    split at hr
    ·rename_i h0;exact ⟨ys,kk,m,rfl,rfl,h0,row,hr⟩
    ·cases hr
   | _=>simp [T.int] at hn
theorem stepI_of {x:Lf} {kk:IntKind} {n:Int} (h:x.evo ρ=some (.c (.int kk n))) (h0:0≤n):stepI ρ x=some n.toNat:=by
 simp [stepI,h,h0]
theorem run_indexAt {t:Nat} {ti te:TI} (hT:TyOk P t ti) (hE:TyOk P ti.el te) (hk:ti.kd=3) {b off len cap:Nat} {kk:IntKind} {n:Int} (h0:0≤n) (hn:n < len) :
  (Instr.indexAt t (.slice (some ⟨b,off,none⟩) len cap) (.int kk n)).run P w=.ok (.pointer (some ⟨b,off+n.toNat * te.sz,none⟩)) w:=by
 have hu:=hT.sl hk
 obtain ⟨i,z,hi,hs,_,_,_⟩:=hE.info
 simp [Instr.indexAt,asIntOf,run_underlying hu,h0,hn,sizeOf,typeInfo,hi,hs,Addr.add_lit]
theorem isZ_step {lo:Lf} {n:Nat} (h:isZ lo=true) (h2:stepI ρ lo=some n):n=0:=by
 unfold isZ at h
 split at h
 ·rename_i k m
  have hm:m=0:=of_decide_eq_true h
  subst hm
  simp [stepI,Lf.evo,scV] at h2
  exact h2.symm
 ·cases h
theorem st_index (tys:TyAll P cx) (h:Rel M B d up s ρ G a w) (hn:∀ n,o.dst=some n→n < a.tmps.size) {x y:Operand} {t:Nat} (ho:o.op=.indexAddr t x y)
  (hk:stepOp cx fid rid d o oi ⟨s.only R,[],ct,[]⟩=some k') (hd:k'.Done S ρ):Goal P M B d up ρ a w s o k'.w Q∧k'.ct.i=ct.i:=by
 have hw:=WOk.start h R ct
 obtain ⟨hr,hm⟩:=hw.opn x
 have hry:=(hw.opn y).1
 simp only [stepOp,ho,indexAt,Option.bind_eq_some_iff,Option.some.injEq] at hk
 obtain ⟨⟨k1,v⟩,⟨ti,hti,te,hte,hv⟩,hk⟩:=hk
 have hk2:putW d o k1 v=k':=hk
 subst hk2
 have hd1:=putW_done.1 hd
 have hT:=tys.ty _ _ hti
 have hE:=tys.ty _ _ hte
 cases hk3:Nat.beq ti.kd 3 with
 | false=>simp [hk3] at hv
 | true =>
  have hkd:=Nat.eq_of_beq_eq_true hk3
  simp only [hk3,cond_true,Option.bind_eq_some_iff] at hv
  obtain ⟨⟨k2,ix⟩,h1,hv⟩:=hv
  have exe:∀ {b off len cap:Nat} {kk:IntKind} {n:Int},a.eval x=.slice (some ⟨b,off,none⟩) len cap→a.eval y=.int kk n→0≤n→n < len →
    (execOp a.eval o).run P w=.ok (.value (.pointer (some ⟨b,off+n.toNat * te.sz,none⟩))) w:=by
   intro b off len cap kk n e1 e2 h0 hlt
   refine run_op (x:=Instr.indexAt t (a.eval x) (a.eval y)) (by unfold execOp;rw [ho]) ?_
   rw [e1,e2];exact run_indexAt hT hE hkd h0 hlt
  have hs1:Wk.Same ⟨s.only R,[],ct,[]⟩ k2:=by
   unfold Wk.one at h1;split at h1
   ·exact Wk.val_same h1
   ·cases h1
  have ixv:∀ {k3:Wk} {z:Lf},(k3.em .bnd [z,ix]).1.Done S ρ→(k3.Done S ρ→k2.Done S ρ)→∃ xs kk n row,k3.Done S ρ∧z.ev ρ=.l xs∧a.eval y=.int kk n∧0≤n∧xs[n.toNat]?=some row∧stepI ρ ix=some n.toNat:=by
   intro k3 z hd3 hpre
   obtain ⟨hd4,r,hrr,_⟩:=Wk.em_done hd3
   obtain ⟨_,_,t1,ht1,hdt⟩:=Wk.one_done hw h1 (hpre hd4) hry
   simp only [List.map_cons,List.map_nil,Lf.evo_ev ht1] at hrr
   obtain ⟨xs,kk,n,hx,hi,h0,row,hrow⟩:=bnd_ev hrr
   subst hi
   obtain ⟨e,_⟩:=hdt.scalar
   exact ⟨xs,kk,n,row,hd4,hx,e,h0,hrow,stepI_of ht1 h0⟩
  have lt_of:∀ {xs:List (List T)} {n:Int} {row:List T},0≤n→xs[n.toNat]?=some row→n < xs.length:=by
   intro xs n row h0 hrow
   have:=(List.getElem?_eq_some_iff.1 hrow).1
   omega
  have plain:∀ {z:Lf} {tt:T} {val:Value} {k3:Wk} ,k3=k2→z.evo ρ=some tt→Den G.q w tt val→a.eval x=val→k1=(k3.em .bnd [z,ix]).1→v=.fp z ix te.sz 0 →
    Goal P M B d up ρ a w s o (putW d o k1 v).w Q∧(putW d o k1 v).ct.i=ct.i:=by
   intro z tt val k3 hk3 hz hden hval e1 e2
   subst hk3 e1 e2
   obtain ⟨xs,kk,n,row,_,hx,he,h0,hrow,hst⟩:=ixv hd1 id
   rw [Lf.evo_ev hz] at hx
   subst hx
   have hlt:=lt_of h0 hrow
   obtain ⟨ad,cap,hv2,_⟩:=hden.rows
   subst hv2
   cases hden with
   | nil=>simp at hlt;omega
   | @l _ b off wd' cap' cv g1 g2 g3 g4 g5 g6 =>
    refine ⟨value_stepP h ((hw.same hs1).same (Wk.em_same _ _ _)) hn (x:=.fp z ix te.sz 0) (exe hval he h0 hlt) ?_ (fun i hi=>by simp [idsSV] at hi) Q,?_⟩
    ·refine ⟨xs,n.toNat,row,b,off+n.toNat * te.sz,hz,hst,hrow,rfl,fun hl=>?_⟩
     exact (Den.l g1 g2 g3 g4 g5 g6).row hrow hl
    ·rw [putW_i,(Wk.em_same _ _ _).i,hs1.i]
  have owned:∀ {id:Nat} {q:Pth} {p:List (Nat × Nat)} {z:Lf} {zs:List (List T)} {dp:Bool} {k3:Wk},k2.Same k3→(k3.Done S ρ→k2.Done S ρ)→pthI ρ id q=some p →
    z.evo ρ=some (.l zs)→Own G w id dp p (.l zs)→a.eval x=G.H id p→M id→k1=(k3.em .bnd [z,ix]).1→v=.ep id q ix te.sz 0 →
    Goal P M B d up ρ a w s o (putW d o k1 v).w Q∧(putW d o k1 v).ct.i=ct.i:=by
   intro id q p z zs dp k3 hsm hpre hp hz hown hval hM e1 e2
   subst e1 e2
   obtain ⟨xs,kk,n,row,_,hx,he,h0,hrow,hst⟩:=ixv hd1 hpre
   rw [Lf.evo_ev hz] at hx
   cases hx
   have hlt:=lt_of h0 hrow
   cases hown with
   | nil hH=>simp at hlt;omega
   | @l _ _ _ b wd' cap' arr elem cv g1 g2 g3 g4 g5 g6 g7 g8 g9 g10 g11 =>
    refine ⟨value_stepP h ((((hw.same hs1).same hsm)).same (Wk.em_same _ _ _)) hn (x:=.ep id q ix te.sz 0) (exe (by rw [hval,g1]) he h0 hlt) ?_ (fun i hi=>by simp [idsSV] at hi;rw [hi];exact hM) Q,?_⟩
    ·exact ⟨p,b,_,_,n.toNat,hp,g1,hst,by omega,by simp⟩
    ·rw [putW_i,(Wk.em_same _ _ _).i,hsm.i,hs1.i]
  split at hv
  ·rename_i z hop
   rw [hop] at hr
   obtain ⟨e,he,hce,_⟩:=hr
   cases he
   obtain ⟨tt,hz,hden⟩:=hce
   simp only [Option.some.injEq,Prod.mk.injEq] at hv
   exact plain rfl hz hden rfl hv.1.symm hv.2.symm
  ·rename_i id q hop
   rw [hop] at hr hm
   obtain ⟨e,he,hce,_⟩:=hr
   cases he
   obtain ⟨p,hp,hval⟩:=hce
   have hM:M id:=hm id (by simp [idsSV,idsCs])
   have hob:=(hw.same hs1).obj id
   split at hv
   ·rename_i q' z hz
    rw [hz] at hob
    obtain ⟨tt,ht,hown⟩:=hob
    have htl:∃ ys,tt=.l ys:=by cases hown <;> exact ⟨_,rfl⟩
    simp only [Option.some.injEq,Prod.mk.injEq] at hv
    obtain ⟨e1,e2⟩:=hv
    subst e1
    have hdd:=(Wk.em_done hd1).1
    obtain ⟨u,hu,hzv,hzl⟩:=Wk.down_done _ _ z hdd ht (pthI_O hp) (.inr htl)
    have hzl2:∃ ys,u=.l ys:=by
     rcases hzl with hq0 | h'
     ·have hp:=pthI_O hp;rw [hq0] at hp;simp only [pthO] at hp;cases hp;simp [digp] at hu;subst hu;exact htl
     ·exact h'
    obtain ⟨zs,rfl⟩:=hzl2
    have hsub:=Own.dig p hown hu ⟨zs,rfl⟩
    simp only [List.nil_append] at hsub
    exact owned (Wk.down_same _ _ z) (Wk.down_pre _ _ _) hp hzv hsub hval hM rfl e2.symm
   ·rename_i z hz
    rw [hz] at hob
    obtain ⟨tt,ht,hown⟩:=hob
    obtain ⟨ys,rfl⟩:∃ ys,tt=.l ys:=by cases hown <;> exact ⟨_,rfl⟩
    simp only [Option.some.injEq,Prod.mk.injEq] at hv
    simp only [pthI_nil] at hp
    cases hp
    exact owned (.refl _) (fun h=>h) rfl ht hown hval hM hv.1.symm hv.2.symm
   ·rename_i tk x0 lo z hz
    rw [hz] at hob
    obtain ⟨tt,ht,hden,_,F,n0,zs,_,hlo,rfl,_,hhdr,hz0⟩:=hob
    simp only [pthI_nil] at hp
    cases hp
    cases hzl:isZ lo with
    | false =>
     simp only [hzl,cond_false,Option.some.injEq,Prod.mk.injEq] at hv
     exact plain rfl ht hden hval hv.1.symm hv.2.symm
    | true =>
     simp only [hzl,cond_true,Option.some.injEq,Prod.mk.injEq] at hv
     have hn0:n0=0:=isZ_step hzl hlo
     obtain ⟨e1,e2⟩:=hv
     subst e1 e2
     obtain ⟨xs,kk,n,row,_,hx,he,h0,hrow,hst⟩:=ixv hd1 (fun h=>h)
     rw [Lf.evo_ev ht] at hx
     cases hx
     have hlt:=lt_of h0 hrow
     obtain ⟨ad,cap,hv2,_⟩:=hden.rows
     rw [hv2] at hden
     generalize hvv:Value.slice ad zs.length cap=vv at hden
     cases hden with
     | nil=>simp at hlt;omega
     | @l _ b off wd' cap' cv g1 g2 g3 g4 g5 g6 =>
      cases hvv
      have hoff:=hz0 hn0 b off _ _ hv2
      subst hoff
      refine ⟨value_stepP h ((hw.same hs1).same (Wk.em_same _ _ _)) hn (x:=.ep id [] ix te.sz 0) (exe (by rw [hval,hv2]) he h0 hlt) ?_ (fun i hi=>by simp [idsSV] at hi;rw [hi];exact hM) Q,?_⟩
      ·exact ⟨[],b,_,_,n.toNat,rfl,hv2,hst,by omega,by simp⟩
      ·rw [putW_i,(Wk.em_same _ _ _).i,hs1.i]
   ·rename_i pv z _ hz
    rw [hz] at hob
    obtain ⟨tt,ht,hden,_⟩:=hob
    simp only [Option.some.injEq,Prod.mk.injEq] at hv
    simp only [pthI_nil] at hp
    cases hp
    exact plain rfl ht hden hval hv.1.symm hv.2.symm
   ·cases hv
  ·cases hv
theorem RelCs.append:∀ {cs es:List Ce} {vs us:List Value},RelCs G w ρ cs vs→RelCs G w ρ es us→RelCs G w ρ (cs++es) (vs++us)
 | [],_,[],_,_,h=>h
 | [],_,_ :: _,_,h,_=>h.elim
 | _ :: _,_,[],_,h,_=>h.elim
 | _ :: cs,_,_ :: vs,_,h,h'=>⟨h.1,RelCs.append h.2 h'⟩
theorem RelCs.splice {cs es:List Ce} {vs us:List Value} (off:Nat) (h:RelCs G w ρ cs vs) (h':RelCs G w ρ es us) :
  RelCs G w ρ (splice cs off es) (vs.take off++us++vs.drop (off+us.length)):=by
 unfold Go.Proofs.YtbhplkilhknciaaDoorC.splice
 rw [← h'.length]
 exact ((h.take off).append h').append (h.drop _)
theorem idsCs_append (cs es:List Ce):idsCs (cs++es)=idsCs cs++idsCs es:=by
 induction cs with
 | nil=>rfl
 | cons c cs ih=>rw [List.cons_append,idsCs_cons,idsCs_cons c cs,ih,List.append_assoc]
theorem idsCs_splice (cs es:List Ce) (off:Nat):∀ i∈idsCs (splice cs off es),i∈idsCs cs∨i∈idsCs es:=by
 intro i hi
 unfold splice at hi
 rw [idsCs_append,idsCs_append] at hi
 simp only [List.mem_append] at hi
 rcases hi with (hi | hi) | hi
 ·exact .inl (idsCs_take _ _ i hi)
 ·exact .inr hi
 ·exact .inl (idsCs_drop _ _ i hi)
def setsAt:List Value→Nat→Array Value→Array Value
 | [],_,c=>c
 | v :: vs,off,c=>setsAt vs (off+1) (c.setIfInBounds off v)
theorem foldl_setsAt (off:Nat):∀ (vs:List Value) (j:Nat) (c:Array Value),
  (vs.zipIdx j).foldl (fun cs p=>cs.setIfInBounds (off+p.2) p.1) c=setsAt vs (off+j) c
 | [],_,_=>rfl
 | v :: vs,j,c=>by
  simp only [List.zipIdx_cons,List.foldl_cons,setsAt]
  rw [foldl_setsAt off vs (j+1),Nat.add_assoc]
theorem setsAt_size:∀ (vs:List Value) (off:Nat) (c:Array Value),(setsAt vs off c).size=c.size
 | [],_,_=>rfl
 | v :: vs,off,c=>by simp [setsAt,setsAt_size vs]
theorem setsAt_get:∀ (vs:List Value) (off:Nat) (c:Array Value) (i:Nat),off+vs.length≤c.size →
  (setsAt vs off c)[i]?=if off≤i∧i < off+vs.length then vs[i - off]? else c[i]?
 | [],off,c,i,_=>by
  simp only [setsAt,List.length_nil]
  rw [if_neg (by omega)]
 | v :: vs,off,c,i,h=>by
  simp only [List.length_cons] at h
  simp only [setsAt]
  rw [setsAt_get vs (off+1) _ i (by simp;omega)]
  by_cases h1:i=off
  ·subst h1
   rw [if_neg (by omega),if_pos (by simp)]
   simp [show i < c.size by omega]
  ·by_cases h2:off+1≤i∧i < off+1+vs.length
   ·rw [if_pos h2,if_pos (by simp;omega)]
    rw [show i - off=(i - (off+1))+1 by omega]
    simp
   ·rw [if_neg h2,if_neg (by simp;omega)]
    rw [Array.getElem?_setIfInBounds_ne (by omega)]
theorem setsAt_toList (vs:List Value) (off:Nat) (c:Array Value) (h:off+vs.length≤c.size) :
  (setsAt vs off c).toList=c.toList.take off++vs++c.toList.drop (off+vs.length):=by
 apply List.ext_getElem?
 intro i
 rw [Array.getElem?_toList,setsAt_get vs off c i h]
 have hl:(c.toList.take off).length=off:=by simp;omega
 by_cases h1:i < off
 ·rw [if_neg (by omega),List.append_assoc,List.getElem?_append_left (by omega),List.getElem?_take,if_pos h1,Array.getElem?_toList]
 ·rw [List.append_assoc,List.getElem?_append_right (by omega),hl]
  by_cases h2:i < off+vs.length
  ·rw [if_pos ⟨by omega,h2⟩,List.getElem?_append_left (by omega)]
  ·rw [if_neg (by omega),List.getElem?_append_right (by omega),List.getElem?_drop,Array.getElem?_toList]
   congr 1
   omega
theorem cells_of_val {ag:Bool} {cs:List Ce} {v:Value} (h:RelVal G w ρ ag cs v):RelCs G w ρ cs v.cells.toList:=by
 cases ag with
 | true=>obtain ⟨vs,rfl,h⟩:=h;exact h
 | false =>
  obtain ⟨e,rfl,h,hn⟩:=h
  have:v.cells=#[v]:=by
   cases v <;> first | rfl | exact absurd rfl (hn _)
  rw [this]
  exact ⟨h,trivial⟩
theorem zero_rel:∀ {cs:List Ce} {vs:List Value},ZeroOk cs vs→RelCs G w ρ cs vs∧idsCs cs=[]
 | [],[],_=>⟨trivial,rfl⟩
 | [],_ :: _,h=>h.elim
 | .p (.k v) :: cs,v' :: vs,h=>by
  obtain ⟨rfl,hs,h⟩:=h
  obtain ⟨h1,h2⟩:=zero_rel h
  exact ⟨⟨⟨.c v,by simp [Lf.evo,hs],.c hs⟩,h1⟩,by simp [idsCs,h2]⟩
 | .n :: cs,v :: vs,h=>by
  obtain ⟨rfl,h⟩:=h
  obtain ⟨h1,h2⟩:=zero_rel h
  exact ⟨⟨rfl,h1⟩,by simp [idsCs,h2]⟩
 | .p (.k _) :: _,[],h=>h.elim
 | .n :: _,[],h=>h.elim
 | .p (.a _) :: _,[],h=>h.elim
 | .p (.a _) :: _,_ :: _,h=>h.elim
 | .p .e :: _,[],h=>h.elim
 | .p .e :: _,_ :: _,h=>h.elim
 | .o _ _ :: _,[],h=>h.elim
 | .o _ _ :: _,_ :: _,h=>h.elim
 | .d :: _,[],h=>h.elim
 | .d :: _,_ :: _,h=>h.elim
theorem fill_rel {G1:Gh} {k:Wk} (hw:WOk M B d up ρ G a w k G1) {fs:List (Nat × Nat)} {place:Nat→Option (Nat × Nat)} (hpl:∀ f o,fs[f]?=some o→place f=some o) :
  ∀ (ps:List (Nat × Operand)) (l:List (Nat × List Ce)) (zs cs:List Ce) (arr:Array Value),parts d k.get fs ps=some l→placed zs l=some cs→RelCs G1 w ρ zs arr.toList →
   (∀ i∈idsCs zs,M i)→∃ arr',Instr.fill place arr (ps.map fun p=>(p.1,a.eval p.2))=some arr'∧RelCs G1 w ρ cs arr'.toList∧(∀ i∈idsCs cs,M i)∧arr'.size=arr.size
 | [],l,zs,cs,arr,hp,hc,hz,hi=>by
  simp only [parts,Option.some.injEq] at hp
  subst hp
  simp only [placed,Option.some.injEq] at hc
  subst hc
  exact ⟨arr,rfl,hz,hi,rfl⟩
 | (f,x) :: ps,l,zs,cs,arr,hp,hc,hz,hi=>by
  simp only [parts,Option.bind_eq_some_iff] at hp
  obtain ⟨of,hf,es,hes,hp⟩:=hp
  cases hle:Nat.beq es.length of.2 with
  | false=>simp [hle] at hp
  | true =>
   simp only [hle,cond_true,Option.bind_eq_some_iff,Option.some.injEq] at hp
   obtain ⟨l',hl',rfl⟩:=hp
   simp only [placed] at hc
   cases hb:Nat.ble (of.1+es.length) zs.length with
   | false=>simp [hb] at hc
   | true =>
    simp only [hb,cond_true] at hc
    obtain ⟨hr,hm⟩:=hw.opn x
    unfold cellsOf at hes
    split at hes
    ·rename_i ag es' hop
     cases hes
     rw [hop] at hr hm
     have hcs:=cells_of_val hr
     have hlen:=hcs.length
     have hzl:=hz.length
     have h1:=Nat.eq_of_beq_eq_true hle
     have h2:=Nat.le_of_ble_eq_true hb
     simp only [Array.length_toList] at hlen hzl
     have hfit:of.1+(a.eval x).cells.toList.length≤arr.size:=by simp only [Array.length_toList];omega
     have hset:(((a.eval x).cells.zipIdx.foldl (fun cs (c,j)=>cs.setIfInBounds (of.1+j) c) arr))=setsAt (a.eval x).cells.toList of.1 arr:=by
      rw [← Array.foldl_toList,Array.toList_zipIdx]
      exact foldl_setsAt of.1 _ 0 arr
     have hz2:=RelCs.splice of.1 hz hcs
     rw [← setsAt_toList _ _ _ hfit] at hz2
     obtain ⟨arr',g1,g2,g3,g4⟩:=fill_rel hw hpl ps l' _ cs (setsAt (a.eval x).cells.toList of.1 arr) hl' hc hz2 fun i hi'=>by
      rcases idsCs_splice _ _ _ i hi' with h | h
      ·exact hi i h
      ·exact hm i h
     refine ⟨arr',?_,g2,g3,by rw [g4,setsAt_size]⟩
     simp only [List.map_cons,Instr.fill,hpl f of hf]
     rw [if_neg]
     ·rw [hset];exact g1
     ·simp only [Array.length_toList] at hfit
      simp only [Bool.or_eq_true,decide_eq_true_eq]
      omega
    ·cases hes
theorem run_sizes:∀ (l:List Field),(∀ f∈l,∃ i,P.info? f.type=some i) →
  (l.mapM fun f=>(do pure (f.offset,← sizeOf f.type):Sem (Nat × Nat))).run P w=.ok (l.map fun f=>(f.offset,((P.info? f.type).map (·.size)).getD 0)) w
 | [],_=>rfl
 | f :: l,h=>by
  obtain ⟨i,hi⟩:=h f (by simp)
  have ih:=run_sizes l fun g hg=>h g (by simp [hg])
  have h1:(do pure (f.offset,← sizeOf f.type):Sem (Nat × Nat)).run P w=.ok (f.offset,i.size) w:=by
   simp [sizeOf,typeInfo,hi]
  rw [List.mapM_cons,Sem.run_bind,h1]
  simp only [Result.andThen_ok,Sem.run_bind,ih,Sem.run_pure,List.map_cons,hi,Option.map_some,Option.getD_some]
theorem st_build (tys:TyAll P cx) (h:Rel M B d up s ρ G a w) (hn:∀ n,o.dst=some n→n < a.tmps.size) {t:Nat} {ps:Array (Nat × Operand)} (ho:o.op=.build t ps)
  (hk:stepOp cx fid rid d o oi ⟨s.only R,[],ct,[]⟩=some k'):Goal P M B d up ρ a w s o k'.w Q∧k'.ct.i=ct.i:=by
 have hw:=WOk.start h R ct
 simp only [stepOp,ho,Option.bind_eq_some_iff] at hk
 obtain ⟨ti,hti,hk⟩:=hk
 cases hagv:ti.ag with
 | false=>simp [hagv] at hk
 | true =>
 simp only [hagv,cond_true,Option.bind_eq_some_iff,Option.some.injEq] at hk
 obtain ⟨l,hl,cs,hcs,hk⟩:=hk
 have hk2:putW d o ⟨s.only R,[],ct,[]⟩ (.v true cs)=k':=hk
 subst hk2
 have hT:=tys.ty _ _ hti
 obtain ⟨i,z,hi,hs,_,hz,hzo⟩:=hT.info
 obtain ⟨u,hu,hag,_⟩:=hT.ag
 obtain ⟨hz1,hz2⟩:=zero_rel (G:=G) (w:=w) (ρ:=ρ) hzo
 obtain ⟨fs,rfl⟩:=hag.1 hagv
 have hlen:=hT.fl fs hu
 have hinfo:∀ f∈fs.toList,∃ i,P.info? f.type=some i:=by
  intro f hf
  obtain ⟨n,hn1⟩:=List.getElem?_of_mem hf
  have hlt:n < ti.fs.length:=by rw [← hlen,← Array.length_toList];exact (List.getElem?_eq_some_iff.1 hn1).1
  obtain ⟨fs',fld,i',e1,e2,_,e4,_⟩:=hT.fs n ti.fs[n] (List.getElem?_eq_getElem hlt)
  rw [hu] at e1
  cases e1
  rw [← Array.getElem?_toList,hn1] at e2
  cases e2
  exact ⟨i',e4⟩
 have hpl:∀ (f:Nat) (o:Nat × Nat),ti.fs[f]?=some o→((fs.toList.map fun f=>(f.offset,((P.info? f.type).map (·.size)).getD 0)).toArray)[f]?=some o:=by
  intro f o hf
  obtain ⟨fs',fld,i',e1,e2,e3,e4,_,e6⟩:=hT.fs f o hf
  rw [hu] at e1
  cases e1
  simp only [List.getElem?_toArray,List.getElem?_map,Array.getElem?_toList,e2,Option.map_some,e4,Option.getD_some,e3,e6]
 obtain ⟨arr',g1,g2,g3,g4⟩:=fill_rel (a:=a) hw (place:=fun f=>((fs.toList.map fun f=>(f.offset,((P.info? f.type).map (·.size)).getD 0)).toArray)[f]?) hpl ps.toList l ti.zero cs z.cells hl hcs hz1 (fun i hi=>by rw [hz2] at hi;cases hi)
 refine ⟨value_stepP h hw hn (x:=.v true cs) (v:=.agg arr') (run_op (x:=Instr.build t (ps.map fun (i,x)=>(i,a.eval x))) (by unfold execOp;rw [ho]) ?_) ⟨arr'.toList,by simp,g2⟩ g3 Q,by rw [putW_i]⟩
 have hmap:(fs.mapM fun f=>(do pure (f.offset,← sizeOf f.type):Sem (Nat × Nat))).run P w=.ok (fs.toList.map fun f=>(f.offset,((P.info? f.type).map (·.size)).getD 0)).toArray w:=by
  rw [Array.mapM_eq_mapM_toList,Sem.run_map,run_sizes _ hinfo]
  rfl
 have hps:(ps.map fun (x:Nat × Operand)=>(x.1,a.eval x.2)).toList=ps.toList.map fun p=>(p.1,a.eval p.2):=by simp
 simp only [Instr.build,Sem.run_bind,zeroValue,typeInfo,run_program,hi,Result.andThen_ok,Sem.run_pure,hz,run_underlying hu,hmap,hps,g1]
end
section
variable {M M':Nat→Prop} {B:Base} {d:Nat} {up:Nat→Nat→Value} {s:St} {ρ:List T} {G:Gh} {a:Act} {w:World} {S:Nat→Sem1} {P:Program}
structure StepOk (M':Nat→Prop) (d:Nat) (up:Nat→Nat→Value) (ρ:List T) (G':Gh) (a':Act) (w':World) (W:St):Prop where
 tm:∀ e n u,e≤d→W.look (.t e n)=some u→RelSV G' w' ρ u (tmv up d a' e n)
 bx:∀ b u,W.look (.x b)=some u→RelBox G' w' ρ b u
 ob:∀ i u,W.look (.o i)=some u→RelObj G' w' ρ i u
 ment:∀ r u,W.look r=some u→∀ i∈idsSV u,M' i
 key:∀ i,(W.look (.x i)≠none∨W.look (.o i)≠none)→M' i
 lab:∀ b l,G'.ω b=some l→M' l.id∧b < w'.heap.size
structure SameOut (w w':World):Prop where
 os:w'.os=w.os
 tape:w'.tape=w.tape
 output:w'.output=w.output
theorem Rel.step (h:Rel M B d up s ρ G a w) {N:Nat→Prop} {G':Gh} {w':World} {W:St} (k:Keep (keysOf W) N G w G' w') {dst:Option Nat} {v:Value}
  (hN:∀ i,N i→¬ M i) (hM:∀ i,M i→M' i) (hd:∀ n,dst=some n→W.look (.t d n)≠none) (so:SameOut w w') (st:StepOk M' d up ρ G' (a.put dst v) w' W) :
  Rel M' B d up (s.sets W) ρ G' (a.put dst v) w':=by
 refine ⟨?_,?_,?_,?_,?_,st.lab,?_,?_,fun i b hb=>⟨hM i (h.bt i b hb).1,?_⟩⟩
 ·intro e n he
  rw [St.get_sets]
  cases hl:W.look (.t e n) with
  | some u=>exact st.tm e n u he hl
  | none =>
   rw [put_tmv fun ⟨h1,h2⟩=>hd n h2 (h1 ▸ hl)]
   exact (h.tm e n he).keep k fun i hi hn=>hN i hn (h.ment _ i hi)
 ·intro b
  rw [St.get_sets]
  cases hl:W.look (.x b) with
  | some u=>exact st.bx b u hl
  | none =>
   by_cases hu:s.get (.x b)=.un
   ·simp only [Option.getD_none,hu];trivial
   ·exact (h.bx b).keep k (fun hk=>hk hl) (fun hn=>hN b hn (h.key b (.inl hu))) fun i hi hn=>hN i hn (h.ment _ i hi)
 ·intro i
  rw [St.get_sets]
  cases hl:W.look (.o i) with
  | some u=>exact st.ob i u hl
  | none =>
   by_cases hu:s.get (.o i)=.un
   ·simp only [Option.getD_none,hu];trivial
   ·exact (h.ob i).keep k (fun p hk=>hk hl) (fun hn=>hN i hn (h.key i (.inr hu))) fun j hj hn=>hN j hn (h.ment _ j hj)
 ·intro r i hi
  rw [St.get_sets] at hi
  cases hl:W.look r with
  | some u=>rw [hl] at hi;exact st.ment r u hl i hi
  | none=>rw [hl] at hi;exact hM i (h.ment r i hi)
 ·intro i hi
  rw [St.get_sets,St.get_sets] at hi
  rcases hi with hi | hi
  ·cases hl:W.look (.x i) with
   | some u=>exact st.key i (.inl (by rw [hl];simp))
   | none=>rw [hl] at hi;exact hM i (h.key i (.inl hi))
  ·cases hl:W.look (.o i) with
   | some u=>exact st.key i (.inr (by rw [hl];simp))
   | none=>rw [hl] at hi;exact hM i (h.key i (.inr hi))
 ·have:=h.dn;cases dst <;> exact this
 ·obtain ⟨b1,b2,b3,b4,b5,b6,b7⟩:=h.base
  refine ⟨so.os.trans b1,so.tape.trans b2,so.output.trans b3,Nat.le_trans b4 k.size,fun b hb h0=>?_,fun b hb=>?_,b7⟩
  ·obtain ⟨h1,h2⟩:=b5 b hb h0
   obtain ⟨_,h4⟩:=k.free b (Nat.lt_of_lt_of_le hb b4) (qf_none h1)
   exact ⟨k.frs b (Nat.lt_of_lt_of_le hb b4) h1,h4.trans h2⟩
  ·obtain ⟨h1,h2⟩:=b6 b hb
   obtain ⟨h3,h4⟩:=k.own b .f h1 (fun hf=>hf)
   exact ⟨h3,h4.trans h2⟩
 ·obtain ⟨h1,h2⟩:=h.bt i b hb
  rw [(k.nm i fun hn=>hN i hn h1).1];exact h2
theorem keysOf_or {W W1 W2:St} (hW:∀ r,W.look r=(W2.look r).or (W1.look r)):(∀ l,keysOf W1 l→keysOf W l)∧(∀ l,keysOf W2 l→keysOf W l):=by
 constructor
 ·intro l hl
  cases l with
  | f=>exact hl
  | x b=>show W.look _≠none;rw [hW];intro e;rw [Option.or_eq_none_iff] at e;exact hl e.2
  | o i p=>show W.look _≠none;rw [hW];intro e;rw [Option.or_eq_none_iff] at e;exact hl e.2
 ·intro l hl
  cases l with
  | f=>exact hl
  | x b=>show W.look _≠none;rw [hW];intro e;rw [Option.or_eq_none_iff] at e;exact hl e.1
  | o i p=>show W.look _≠none;rw [hW];intro e;rw [Option.or_eq_none_iff] at e;exact hl e.1
theorem mem_step {k:Wk} {G1:Gh} (h:Rel M B d up s ρ G a w) (hk:WOk M B d up ρ G a w k G1) {dst:Option Nat} {v:Value} {w':World} {G2:Gh} {N:Nat→Prop} {W W2:St}
  (hW:∀ r,W.look r=(W2.look r).or (k.w.look r)) (keep:Keep (keysOf W2) N G1 w G2 w') (hN:∀ i,N i→¬ M i) (hM:∀ i,M i→M' i)
  (hd:∀ n,dst=some n→W2.look (.t d n)≠none) (so:SameOut w w') (st:StepOk M' d up ρ G2 (a.put dst v) w' W2) :
  Rel M' B d up (s.sets W) ρ G2 (a.put dst v) w':=by
 have hg:∀ r,(k.r.sets W).get r=((k.r.sets k.w).sets W2).get r:=by
  intro r
  rw [St.get_sets,St.get_sets,St.get_sets,hW]
  cases W2.look r <;> rfl
 obtain ⟨k1,k2⟩:=keysOf_or hW
 refine h.glue (s':=k.r) ((hk.keep.mono k1 fun _ hf=>hf.elim).trans (keep.mono k2 fun _ hn=>hn)) hN hM (fun n hn he=>?_) ((hk.rel.step keep hN hM hd so st).congr hg)
 rw [hW,Option.or_eq_none_iff] at he
 exact hd n hn he.1
variable {cx:Cx} {fid rid oi:Nat} {R:List Res} {ct:Ct} {k':Wk} {o:Oper} {Q:Exit→Act→World→Prop}
def Mn (M:Nat→Prop) (lo hi:Nat):Nat→Prop:=fun i=>M i∨(lo≤i∧i < hi)
theorem Mn.left {M:Nat→Prop} {lo hi i:Nat} (h:M i):Mn M lo hi i:=.inl h
theorem putW_look {k:Wk} {v:SV} (r:Res):(putW d o k v).w.look r=if o.dst.map (Res.t d)=some r then some v else k.w.look r:=by
 unfold putW
 cases o.dst with
 | none=>simp
 | some n =>
  simp only [Option.map_some,Option.some.injEq]
  split
  ·rename_i he;subst he;exact St.look_set_self _ _ _
  ·rename_i he;exact St.look_set_ne _ _ he
def dstW (d:Nat) (o:Oper) (v:SV):St:=match o.dst with | some n=>[(.t d n,v)] | none=>[]
theorem dstW_look {v:SV} (r:Res):(dstW d o v).look r=if o.dst.map (Res.t d)=some r then some v else none:=by
 unfold dstW
 cases o.dst with
 | none=>simp [St.look]
 | some n =>
  simp only [Option.map_some,Option.some.injEq,St.look]
  cases hb:(Res.t d n).beq r with
  | true=>simp [Res.beq_iff.1 hb]
  | false =>
   have:¬ (Res.t d n=r):=fun e=>by simp [Res.beq_iff.2 e] at hb
   simp [this]
theorem look_append (A C:St) (r:Res):(A++C).look r=(A.look r).or (C.look r):=by
 induction A with
 | nil=>simp [St.look]
 | cons x A ih =>
  obtain ⟨r',v⟩:=x
  simp only [List.cons_append,St.look]
  cases r'.beq r <;> simp [ih]
theorem look_one (r r':Res) (v:SV):St.look [(r,v)] r'=if r=r' then some v else none:=by
 simp only [St.look]
 cases hb:r.beq r' with
 | true=>simp [Res.beq_iff.1 hb]
 | false =>
  have:¬ (r=r'):=fun e=>by simp [Res.beq_iff.2 e] at hb
  simp [this]
theorem putW_W {k k0:Wk} {v:SV} {W2:St} (hk:∀ r,k.w.look r=(W2.look r).or (k0.w.look r)) (r:Res):(putW d o k v).w.look r=((dstW d o v++W2).look r).or (k0.w.look r):=by
 rw [putW_look,look_append,dstW_look,hk]
 split <;> simp
theorem set_W {k:Wk} {r:Res} {v:SV} (r':Res):(k.w.set r v).look r'=(St.look [(r,v)] r').or (k.w.look r'):=by
 rw [look_one]
 by_cases h:r=r'
 ·subst h;rw [St.look_set_self];simp
 ·rw [St.look_set_ne _ _ h];simp [h]
theorem look_dst {x u:SV} {W:St} {r:Res} (h:(dstW d o x++W).look r=some u):(∃ n,o.dst=some n∧r=.t d n∧u=x)∨W.look r=some u:=by
 rw [look_append,dstW_look] at h
 split at h
 ·rename_i he
  cases hd:o.dst with
  | none=>simp [hd] at he
  | some n =>
   simp [hd] at he
   simp at h
   exact .inl ⟨n,rfl,he.symm,h.symm⟩
 ·simp at h
  exact .inr h
theorem look_cons {r r':Res} {v u:SV} {W:St} (h:St.look ((r,v) :: W) r'=some u):(r'=r∧u=v)∨W.look r'=some u:=by
 simp only [St.look] at h
 cases hb:r.beq r' with
 | true=>simp [hb] at h;exact .inl ⟨(Res.beq_iff.1 hb).symm,h.symm⟩
 | false=>simp [hb] at h;exact .inr h
theorem dst_look {x:SV} {W:St} {n:Nat} (h:o.dst=some n):(dstW d o x++W).look (.t d n)≠none:=by
 rw [look_append,dstW_look,h];simp
def Gh.box (G:Gh) (b i:Nat):Gh :=
 { G with ω:=fun c=>if c=b then some (.x i) else G.ω c,β:=fun j=>if j=i then b else G.β j }
theorem fresh_none {s:St} (h:Rel M B d up s ρ G a w) {b:Nat} (hb:w.heap.size≤b):G.ω b=none:=by
 cases ho:G.ω b with
 | none=>rfl
 | some l=>have:=(h.lab b l ho).2;omega
theorem so_alloc (w:World) (o:Obj):SameOut w (w.alloc o):=⟨rfl,rfl,rfl⟩
theorem box_step {k:Wk} {G1:Gh} (h:Rel M B d up s ρ G a w) (hk:WOk M B d up ρ G a w k G1) (hn:∀ n,o.dst=some n→n < a.tmps.size) (hM:¬ M k.ct.i)
  {arr:Array Value} {t:TypeId} {ag:Bool} {cs:List Ce} (hcs:RelCs G1 w ρ cs arr.toList) (hids:∀ i∈idsCs cs,M i)
  (hx:(execOp a.eval o).run P w=.ok (.value (.pointer (some ⟨w.heap.size,0,none⟩))) (w.alloc (.cells arr t))) :
  Goal P (Mn M k.ct.i (k.ct.i+1)) B d up ρ a w s o (putW d o { (k.set (.x k.ct.i) (.v ag cs)) with ct:=⟨k.ct.a,k.ct.i+1⟩ } (.pt k.ct.i 0)).w Q:=by
 have hf:=fresh_none hk.rel (Nat.le_refl w.heap.size)
 have hK:Keep (keysOf (dstW d o (.pt k.ct.i 0)++[(.x k.ct.i,.v ag cs)])) (fun i=>i=k.ct.i) G1 w (G1.box w.heap.size k.ct.i) (w.alloc (.cells arr t)):=by
  refine ⟨by simp,fun b hb h0=>?_,fun b hb h0=>?_,fun b l hb _=>?_,fun i hi=>?_⟩
  ·have:b≠w.heap.size:=by omega
   exact ⟨(Gh.q_same (by simp [Gh.box,this])).trans h0,heap_alloc_old w _ b hb⟩
  ·have:b≠w.heap.size:=by omega
   simp [Gh.box,this,h0]
  ·have hlt:=(hk.rel.lab b l hb).2
   have:b≠w.heap.size:=by omega
   exact ⟨by simp [Gh.box,this,hb],heap_alloc_old w _ b hlt⟩
  ·exact ⟨by simp [Gh.box,hi],fun _ _=>rfl⟩
 have hne:∀ i∈idsCs cs,¬ (i=k.ct.i):=fun i hi e=>hM (e ▸ hids i hi)
 simp only [Goal,Oper.wp,hx,Oper.upon]
 refine ⟨G1.box w.heap.size k.ct.i,mem_step h hk (W2:=dstW d o (.pt k.ct.i 0)++[(.x k.ct.i,.v ag cs)]) (putW_W (W2:=[(.x k.ct.i,.v ag cs)]) (k:={ (k.set (.x k.ct.i) (.v ag cs)) with ct:=⟨k.ct.a,k.ct.i+1⟩ }) fun r=>by exact set_W (k:=k) (r:=.x k.ct.i) (v:=.v ag cs) r)
  hK (fun i hi=>by subst hi;exact hM) (fun i hi=>.inl hi) (fun n hdn=>dst_look hdn) (so_alloc _ _) ?_,put_size _ _ _⟩
 have hnew:Mn M k.ct.i (k.ct.i+1) k.ct.i:=.inr ⟨Nat.le_refl _,Nat.lt_succ_self _⟩
 refine ⟨fun e n u he hl=>?_,fun b u hl=>?_,fun i u hl=>?_,fun r u hl i hi=>?_,fun i hi=>?_,fun b l hb=>?_⟩
 ·rcases look_dst hl with ⟨n',hn',e1,rfl⟩ | hl
  ·cases e1
   rw [hn',put_tmv_self (hn _ hn')]
   simp [RelSV,Gh.box]
  ·rcases look_cons hl with ⟨e1,_⟩ | hl
   ·cases e1
   ·cases hl
 ·rcases look_dst hl with ⟨n',hn',e1,rfl⟩ | hl
  ·cases e1
  ·rcases look_cons hl with ⟨e1,rfl⟩ | hl
   ·cases e1
    refine ⟨by simp [Gh.box],arr,t,?_,hcs.keep hK hne⟩
    simpa only [Gh.box,if_pos] using heap_alloc_new w (.cells arr t)
   ·cases hl
 ·rcases look_dst hl with ⟨n',hn',e1,rfl⟩ | hl
  ·cases e1
  ·rcases look_cons hl with ⟨e1,rfl⟩ | hl
   ·cases e1
   ·cases hl
 ·rcases look_dst hl with ⟨n',hn',e1,rfl⟩ | hl
  ·simp [idsSV] at hi;subst hi;exact hnew
  ·rcases look_cons hl with ⟨e1,rfl⟩ | hl
   ·exact .inl (hids i hi)
   ·cases hl
 ·have:∀ r:Res,(r=.x i∨r=.o i)→St.look (dstW d o (.pt k.ct.i 0)++[(Res.x k.ct.i,SV.v ag cs)]) r≠none→i=k.ct.i:=by
   intro r hr hl
   obtain ⟨u,hu⟩:=Option.ne_none_iff_exists'.1 hl
   rcases look_dst hu with ⟨n',hn',e1,rfl⟩ | hl
   ·rcases hr with rfl | rfl <;> cases e1
   ·rcases look_cons hl with ⟨e1,rfl⟩ | hl
    ·rcases hr with rfl | rfl
     ·cases e1;rfl
     ·cases e1
    ·cases hl
  rcases hi with hi | hi
  ·rw [this _ (.inl rfl) hi];exact hnew
  ·rw [this _ (.inr rfl) hi];exact hnew
 ·simp only [Gh.box] at hb
  split at hb
  ·rename_i he
   cases hb
   exact ⟨hnew,by simp [he]⟩
  ·obtain ⟨h1,h2⟩:=hk.rel.lab b l hb
   exact ⟨.inl h1,by simp;omega⟩
theorem st_alloc (tys:TyAll P cx) (h:Rel M B d up s ρ G a w) (hn:∀ n,o.dst=some n→n < a.tmps.size) {t:Nat} (ho:o.op=.alloc t)
  (hk:stepOp cx fid rid d o oi ⟨s.only R,[],ct,[]⟩=some k') (hM:∀ i,ct.i≤i→i < k'.ct.i→¬ M i):Goal P (Mn M ct.i k'.ct.i) B d up ρ a w s o k'.w Q:=by
 have hw:=WOk.start h R ct
 simp only [stepOp,ho,Option.bind_eq_some_iff,Option.some.injEq] at hk
 obtain ⟨ti,hti,hk⟩:=hk
 have hk2:putW d o { (Wk.set ⟨s.only R,[],ct,[]⟩ (.x ct.i) (.v ti.ag ti.zero)) with ct:=⟨ct.a,ct.i+1⟩ } (.pt ct.i 0)=k':=hk
 have hct:k'.ct.i=ct.i+1:=by rw [← hk2,putW_i]
 have hT:=tys.ty _ _ hti
 obtain ⟨i,z,hi,hs,_,hz,hzo⟩:=hT.info
 obtain ⟨hz1,hz2⟩:=zero_rel (G:=G) (w:=w) (ρ:=ρ) hzo
 rw [hct,← hk2]
 refine box_step (arr:=z.cells) (t:=t) h hw hn (hM _ (Nat.le_refl _) (by simp only [hct];omega)) hz1 (fun i hi=>by rw [hz2] at hi;cases hi) ?_
 unfold execOp
 rw [ho]
 simp [Instr.alloc,zeroValue,typeInfo,hi,hz,newVar,newRow]
theorem st_box (tys:TyAll P cx) (h:Rel M B d up s ρ G a w) (hn:∀ n,o.dst=some n→n < a.tmps.size) {t:Nat} {x:Operand} (ho:o.op=.box t x)
  (hk:stepOp cx fid rid d o oi ⟨s.only R,[],ct,[]⟩=some k') (hM:∀ i,ct.i≤i→i < k'.ct.i→¬ M i):Goal P (Mn M ct.i k'.ct.i) B d up ρ a w s o k'.w Q:=by
 have hw:=WOk.start h R ct
 simp only [stepOp,ho,Option.bind_eq_some_iff] at hk
 obtain ⟨ti,hti,cs,hcs,hk⟩:=hk
 cases hl:Nat.beq cs.length ti.sz with
 | false=>simp [hl] at hk
 | true =>
  simp only [hl,cond_true,Option.some.injEq] at hk
  have hk2:putW d o { (Wk.set ⟨s.only R,[],ct,[]⟩ (.x ct.i) (.v ti.ag cs)) with ct:=⟨ct.a,ct.i+1⟩ } (.pt ct.i 0)=k':=hk
  have hct:k'.ct.i=ct.i+1:=by rw [← hk2,putW_i]
  obtain ⟨hr,hm⟩:=hw.opn x
  unfold cellsOf at hcs
  split at hcs
  ·rename_i ag es hop
   cases hcs
   rw [hop] at hr hm
   rw [hct,← hk2]
   refine box_step (arr:=(a.eval x).cells) (t:=t) h hw hn (hM _ (Nat.le_refl _) (by simp only [hct];omega)) (cells_of_val hr) hm ?_
   unfold execOp
   rw [ho]
   simp [Instr.box,newVar,newRow]
  ·cases hcs
theorem caps_rel {k:Wk} {G1:Gh} (hk:WOk M B d up ρ G a w k G1):∀ (xs:List Operand) (bs:List Nat),
  (xs.mapM fun x=>match opnd d k.get x with | .pt b 0=>some b | _=>none)=some bs→xs.map a.eval=bs.map (fun b=>Value.pointer (some ⟨G1.β b,0,none⟩))∧∀ b∈bs,M b
 | [],bs,h=>by simp at h;subst h;exact ⟨rfl,fun _ h=>by cases h⟩
 | x :: xs,bs,h=>by
  simp only [List.mapM_cons,Option.pure_def,Option.bind_eq_bind,Option.bind_eq_some_iff,Option.some.injEq] at h
  obtain ⟨b,hb,bs',hbs,rfl⟩:=h
  obtain ⟨h1,h2⟩:=caps_rel hk xs bs' hbs
  obtain ⟨hr,hm⟩:=hk.opn x
  split at hb
  ·rename_i b' hop
   cases hb
   rw [hop] at hr hm
   refine ⟨by simp only [List.map_cons,h1];rw [show a.eval x=_ from hr],fun c hc=>?_⟩
   rcases List.mem_cons.1 hc with rfl | hc
   ·exact hm _ (by simp [idsSV])
   ·exact h2 c hc
  ·cases hb
theorem st_makeFunc (h:Rel M B d up s ρ G a w) (hn:∀ n,o.dst=some n→n < a.tmps.size) {fn:Fn} {first caps:Array Operand} (ho:o.op=.makeFunc fn first caps)
  (hk:stepOp cx fid rid d o oi ⟨s.only R,[],ct,[]⟩=some k'):Goal P M B d up ρ a w s o k'.w Q∧k'.ct.i=ct.i:=by
 have hw:=WOk.start h R ct
 cases fn with
 | func f =>
  simp only [stepOp,ho] at hk
  cases he:first.isEmpty with
  | false=>simp [he] at hk
  | true =>
   simp only [he,cond_true,Option.bind_eq_some_iff,Option.some.injEq] at hk
   obtain ⟨bs,hbs,hk⟩:=hk
   have hk2:putW d o ⟨s.only R,[],ct,[]⟩ (.cl f bs)=k':=hk
   subst hk2
   obtain ⟨h1,h2⟩:=caps_rel hw _ bs hbs
   have hfirst:first=#[]:=by simpa using he
   refine ⟨value_stepP h hw hn (x:=.cl f bs) (v:=.func (.func f) #[] (caps.map a.eval)) (run_op (x:=Instr.makeFunc (.func f) (first.map a.eval) (caps.map a.eval)) (by unfold execOp;rw [ho]) ?_) ?_ h2 Q,by rw [putW_i]⟩
   ·rw [hfirst];simp [Instr.makeFunc]
   ·show _=_
    congr 1
    apply Array.ext'
    simpa using h1
 | _=>simp [stepOp,ho] at hk
end
end Go.Proofs.YtbhplkilhknciaaDoorC

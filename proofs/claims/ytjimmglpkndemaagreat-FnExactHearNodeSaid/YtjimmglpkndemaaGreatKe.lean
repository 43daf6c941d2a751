/- The walk by reflection: a part of its laws, for any function. Conditions: none. -/
import Derived.Test.YtjimmglpkndemaaGreatKd
namespace Go.Proofs.YtjimmglpkndemaaGreatC
set_option linter.unusedVariables false
def pv(p:Prim)(l:List T)(k:T->Option (List T)):Option (List T):=(Prim.ev p l).bind k
theorem We(p:Prim)(l:List T)(k:T->Option (List T)):pv p l k=(Prim.ev p l).bind k:=rfl
def Yz(x:T)(k:T->Option (List T)):Option (List T):=(Prim.ev (.bM) [x]).bind k
theorem akk(x:T)(k:T->Option (List T)):Yz x k=(Prim.ev (.bM) [x]).bind k:=rfl
def Ya(x y:T)(k:T->Option (List T)):Option (List T):=(Prim.ev (.bin .add) [x,y]).bind k
theorem akl(x y:T)(k:T->Option (List T)):Ya x y k=(Prim.ev (.bin .add) [x,y]).bind k:=rfl
def Yb(x y:T)(k:T->Option (List T)):Option (List T):=(Prim.ev (.dC) [x,y]).bind k
theorem akm(x y:T)(k:T->Option (List T)):Yb x y k=(Prim.ev (.dC) [x,y]).bind k:=rfl
def Yl(x y:T)(k:T->Option (List T)):Option (List T):=(Prim.ev (.bin .lss) [x,y]).bind k
theorem akn(x y:T)(k:T->Option (List T)):Yl x y k=(Prim.ev (.bin .lss) [x,y]).bind k:=rfl
def Ye(x y:T)(k:T->Option (List T)):Option (List T):=(Prim.ev (.bin .eql) [x,y]).bind k
theorem ako(x y:T)(k:T->Option (List T)):Ye x y k=(Prim.ev (.bin .eql) [x,y]).bind k:=rfl
def Yn(x:T)(k:T->Option (List T)):Option (List T):=(Prim.ev (.len) [x]).bind k
theorem akp(x:T)(k:T->Option (List T)):Yn x k=(Prim.ev (.len) [x]).bind k:=rfl
def Yt(x:T)(k:T->Option (List T)):Option (List T):=(Prim.ev (.un .not) [x]).bind k
theorem akq(x:T)(k:T->Option (List T)):Yt x k=(Prim.ev (.un .not) [x]).bind k:=rfl
def Yp(x y:T)(k:T->Option (List T)):Option (List T):=(Prim.ev (.app true 1) [x,y]).bind k
theorem akr(x y:T)(k:T->Option (List T)):Yp x y k=(Prim.ev (.app true 1) [x,y]).bind k:=rfl
def Yo(x y:T)(k:T->Option (List T)):Option (List T):=(Prim.ev (.app false 3) [x,y]).bind k
theorem aks(x y:T)(k:T->Option (List T)):Yo x y k=(Prim.ev (.app false 3) [x,y]).bind k:=rfl
def Yu(x y:T)(k:T->Option (List T)):Option (List T):=(Prim.ev (.bin .neq) [x,y]).bind k
theorem akt(x y:T)(k:T->Option (List T)):Yu x y k=(Prim.ev (.bin .neq) [x,y]).bind k:=rfl
def Yg(x y:T)(k:T->Option (List T)):Option (List T):=(Prim.ev (.bin .gtr) [x,y]).bind k
theorem aku(x y:T)(k:T->Option (List T)):Yg x y k=(Prim.ev (.bin .gtr) [x,y]).bind k:=rfl
def Ym(x y:T)(k:T->Option (List T)):Option (List T):=(Prim.ev (.bin .leq) [x,y]).bind k
theorem akv(x y:T)(k:T->Option (List T)):Ym x y k=(Prim.ev (.bin .leq) [x,y]).bind k:=rfl
def Yh(x y:T)(k:T->Option (List T)):Option (List T):=(Prim.ev (.bin .geq) [x,y]).bind k
theorem akw(x y:T)(k:T->Option (List T)):Yh x y k=(Prim.ev (.bin .geq) [x,y]).bind k:=rfl
def Ys(x y:T)(k:T->Option (List T)):Option (List T):=(Prim.ev (.bin .sub) [x,y]).bind k
theorem akx(x y:T)(k:T->Option (List T)):Ys x y k=(Prim.ev (.bin .sub) [x,y]).bind k:=rfl
def Yv(x y:T)(k:T->Option (List T)):Option (List T):=(Prim.ev (.sub 1 true false) [x,y]).bind k
theorem aky(x y:T)(k:T->Option (List T)):Yv x y k=(Prim.ev (.sub 1 true false) [x,y]).bind k:=rfl
def Yw(x y:T)(k:T->Option (List T)):Option (List T):=(Prim.ev (.sub 1 false true) [x,y]).bind k
theorem akz(x y:T)(k:T->Option (List T)):Yw x y k=(Prim.ev (.sub 1 false true) [x,y]).bind k:=rfl
def Yx(x:T)(k:T->Option (List T)):Option (List T):=(Prim.ev (.lit 1 [true]) [x]).bind k
theorem akA(x:T)(k:T->Option (List T)):Yx x k=(Prim.ev (.lit 1 [true]) [x]).bind k:=rfl
def Yy(x y:T)(k:T->Option (List T)):Option (List T):=(Prim.ev (.app false 8) [x,y]).bind k
theorem akB(x y:T)(k:T->Option (List T)):Yy x y k=(Prim.ev (.app false 8) [x,y]).bind k:=rfl
def Yc(w j:Nat)(x y:T)(k:T->Option (List T)):Option (List T):=(Prim.ev (.cell w j) [x,y]).bind k
theorem akC(w j:Nat)(x y:T)(k:T->Option (List T)):Yc w j x y k=(Prim.ev (.cell w j) [x,y]).bind k:=rfl
def Yq(x y:T)(k:T->Option (List T)):Option (List T):=(Prim.ev .dC [x,y]).bind λ_=>(Prim.ev (.bq 1 0) [x,y]).bind k
theorem akD(x y:T)(k:T->Option (List T)):Yq x y k=(Prim.ev .dC [x,y]).bind λ_=>(Prim.ev (.bq 1 0) [x,y]).bind k:=rfl
def Y1(x y:T)(k:T->Option (List T)):Option (List T):=(Prim.ev .dC [x,y]).bind λ_=>(Prim.ev (.cell 1 0) [x,y]).bind λa0=>k a0
theorem akE(x y:T)(k:T->Option (List T)):Y1 x y k=(Prim.ev .dC [x,y]).bind λ_=>(Prim.ev (.cell 1 0) [x,y]).bind λa0=>k a0:=rfl
def Y2(x y:T)(k:T->T->Option (List T)):Option (List T):=(Prim.ev .dC [x,y]).bind λ_=>(Prim.ev (.cell 2 0) [x,y]).bind λa0=>(Prim.ev (.cell 2 1) [x,y]).bind λa1=>k a0 a1
theorem akF(x y:T)(k:T->T->Option (List T)):Y2 x y k=(Prim.ev .dC [x,y]).bind λ_=>(Prim.ev (.cell 2 0) [x,y]).bind λa0=>(Prim.ev (.cell 2 1) [x,y]).bind λa1=>k a0 a1:=rfl
def Y3(x y:T)(k:T->T->T->Option (List T)):Option (List T):=(Prim.ev .dC [x,y]).bind λ_=>(Prim.ev (.cell 3 0) [x,y]).bind λa0=>(Prim.ev (.cell 3 1) [x,y]).bind λa1=>(Prim.ev (.cell 3 2) [x,y]).bind λa2=>k a0 a1 a2
theorem akG(x y:T)(k:T->T->T->Option (List T)):Y3 x y k=(Prim.ev .dC [x,y]).bind λ_=>(Prim.ev (.cell 3 0) [x,y]).bind λa0=>(Prim.ev (.cell 3 1) [x,y]).bind λa1=>(Prim.ev (.cell 3 2) [x,y]).bind λa2=>k a0 a1 a2:=rfl
def Y4(x y:T)(k:T->T->T->T->Option (List T)):Option (List T):=(Prim.ev .dC [x,y]).bind λ_=>(Prim.ev (.cell 4 0) [x,y]).bind λa0=>(Prim.ev (.cell 4 1) [x,y]).bind λa1=>(Prim.ev (.cell 4 2) [x,y]).bind λa2=>(Prim.ev (.cell 4 3) [x,y]).bind λa3=>k a0 a1 a2 a3
theorem akH(x y:T)(k:T->T->T->T->Option (List T)):Y4 x y k=(Prim.ev .dC [x,y]).bind λ_=>(Prim.ev (.cell 4 0) [x,y]).bind λa0=>(Prim.ev (.cell 4 1) [x,y]).bind λa1=>(Prim.ev (.cell 4 2) [x,y]).bind λa2=>(Prim.ev (.cell 4 3) [x,y]).bind λa3=>k a0 a1 a2 a3:=rfl
def Y6(x y:T)(k:T->T->T->T->T->T->Option (List T)):Option (List T):=(Prim.ev .dC [x,y]).bind λ_=>(Prim.ev (.cell 6 0) [x,y]).bind λa0=>(Prim.ev (.cell 6 1) [x,y]).bind λa1=>(Prim.ev (.cell 6 2) [x,y]).bind λa2=>(Prim.ev (.cell 6 3) [x,y]).bind λa3=>(Prim.ev (.cell 6 4) [x,y]).bind λa4=>(Prim.ev (.cell 6 5) [x,y]).bind λa5=>k a0 a1 a2 a3 a4 a5
theorem akI(x y:T)(k:T->T->T->T->T->T->Option (List T)):Y6 x y k=(Prim.ev .dC [x,y]).bind λ_=>(Prim.ev (.cell 6 0) [x,y]).bind λa0=>(Prim.ev (.cell 6 1) [x,y]).bind λa1=>(Prim.ev (.cell 6 2) [x,y]).bind λa2=>(Prim.ev (.cell 6 3) [x,y]).bind λa3=>(Prim.ev (.cell 6 4) [x,y]).bind λa4=>(Prim.ev (.cell 6 5) [x,y]).bind λa5=>k a0 a1 a2 a3 a4 a5:=rfl
def Y8(x y:T)(k:T->T->T->T->T->T->T->T->Option (List T)):Option (List T):=(Prim.ev .dC [x,y]).bind λ_=>(Prim.ev (.cell 8 0) [x,y]).bind λa0=>(Prim.ev (.cell 8 1) [x,y]).bind λa1=>(Prim.ev (.cell 8 2) [x,y]).bind λa2=>(Prim.ev (.cell 8 3) [x,y]).bind λa3=>(Prim.ev (.cell 8 4) [x,y]).bind λa4=>(Prim.ev (.cell 8 5) [x,y]).bind λa5=>(Prim.ev (.cell 8 6) [x,y]).bind λa6=>(Prim.ev (.cell 8 7) [x,y]).bind λa7=>k a0 a1 a2 a3 a4 a5 a6 a7
theorem akJ(x y:T)(k:T->T->T->T->T->T->T->T->Option (List T)):Y8 x y k=(Prim.ev .dC [x,y]).bind λ_=>(Prim.ev (.cell 8 0) [x,y]).bind λa0=>(Prim.ev (.cell 8 1) [x,y]).bind λa1=>(Prim.ev (.cell 8 2) [x,y]).bind λa2=>(Prim.ev (.cell 8 3) [x,y]).bind λa3=>(Prim.ev (.cell 8 4) [x,y]).bind λa4=>(Prim.ev (.cell 8 5) [x,y]).bind λa5=>(Prim.ev (.cell 8 6) [x,y]).bind λa6=>(Prim.ev (.cell 8 7) [x,y]).bind λa7=>k a0 a1 a2 a3 a4 a5 a6 a7:=rfl
def jn(k:af)(b:af->Option (List T)):Option (List T):=b k
def aZ(o:Option (List T))(k:T->Option (List T)):Option (List T):=o.bind λts=>k (ts.getD 0 T.cE)
theorem Wf(x0:T)(k:T->Option (List T)):aZ (some [x0]) k=k x0:=rfl
def ej(k:T->Option (List T)):af:=λts=>k (ts.getD 0 T.cE)
theorem Wg(x0:T)(k:T->Option (List T)):ej k [x0]=k x0:=rfl
def RS(o:Option (List T))(k:T->T->Option (List T)):Option (List T):=o.bind λts=>k (ts.getD 0 T.cE) (ts.getD 1 T.cE)
theorem akK(x0 x1:T)(k:T->T->Option (List T)):RS (some [x0,x1]) k=k x0 x1:=rfl
def dQ(k:T->T->Option (List T)):af:=λts=>k (ts.getD 0 T.cE) (ts.getD 1 T.cE)
theorem Wh(x0 x1:T)(k:T->T->Option (List T)):dQ k [x0,x1]=k x0 x1:=rfl
def mS(o:Option (List T))(k:T->T->T->Option (List T)):Option (List T):=o.bind λts=>k (ts.getD 0 T.cE) (ts.getD 1 T.cE) (ts.getD 2 T.cE)
theorem akL(x0 x1 x2:T)(k:T->T->T->Option (List T)):mS (some [x0,x1,x2]) k=k x0 x1 x2:=rfl
def tc(k:T->T->T->Option (List T)):af:=λts=>k (ts.getD 0 T.cE) (ts.getD 1 T.cE) (ts.getD 2 T.cE)
theorem Wi(x0 x1 x2:T)(k:T->T->T->Option (List T)):tc k [x0,x1,x2]=k x0 x1 x2:=rfl
def vj(o:Option (List T))(k:T->T->T->T->Option (List T)):Option (List T):=o.bind λts=>k (ts.getD 0 T.cE) (ts.getD 1 T.cE) (ts.getD 2 T.cE) (ts.getD 3 T.cE)
theorem akM(x0 x1 x2 x3:T)(k:T->T->T->T->Option (List T)):vj (some [x0,x1,x2,x3]) k=k x0 x1 x2 x3:=rfl
def J1(k:T->T->T->T->Option (List T)):af:=λts=>k (ts.getD 0 T.cE) (ts.getD 1 T.cE) (ts.getD 2 T.cE) (ts.getD 3 T.cE)
theorem Wj(x0 x1 x2 x3:T)(k:T->T->T->T->Option (List T)):J1 k [x0,x1,x2,x3]=k x0 x1 x2 x3:=rfl
def RT(k:T->T->T->T->T->Option (List T)):af:=λts=>k (ts.getD 0 T.cE) (ts.getD 1 T.cE) (ts.getD 2 T.cE) (ts.getD 3 T.cE) (ts.getD 4 T.cE)
theorem Wl(x0 x1 x2 x3 x4:T)(k:T->T->T->T->T->Option (List T)):RT k [x0,x1,x2,x3,x4]=k x0 x1 x2 x3 x4:=rfl
def cl6(o:Option (List T))(k:T->T->T->T->T->T->Option (List T)):Option (List T):=o.bind λts=>k (ts.getD 0 T.cE) (ts.getD 1 T.cE) (ts.getD 2 T.cE) (ts.getD 3 T.cE) (ts.getD 4 T.cE) (ts.getD 5 T.cE)
theorem akN(x0 x1 x2 x3 x4 x5:T)(k:T->T->T->T->T->T->Option (List T)):cl6 (some [x0,x1,x2,x3,x4,x5]) k=k x0 x1 x2 x3 x4 x5:=rfl
def AC(o:Option (List T))(k:T->T->T->T->T->T->T->Option (List T)):Option (List T):=o.bind λts=>k (ts.getD 0 T.cE) (ts.getD 1 T.cE) (ts.getD 2 T.cE) (ts.getD 3 T.cE) (ts.getD 4 T.cE) (ts.getD 5 T.cE) (ts.getD 6 T.cE)
theorem akO(x0 x1 x2 x3 x4 x5 x6:T)(k:T->T->T->T->T->T->T->Option (List T)):AC (some [x0,x1,x2,x3,x4,x5,x6]) k=k x0 x1 x2 x3 x4 x5 x6:=rfl
def ku(o:Option (List T))(k:T->T->T->T->T->T->T->T->Option (List T)):Option (List T):=o.bind λts=>k (ts.getD 0 T.cE) (ts.getD 1 T.cE) (ts.getD 2 T.cE) (ts.getD 3 T.cE) (ts.getD 4 T.cE) (ts.getD 5 T.cE) (ts.getD 6 T.cE) (ts.getD 7 T.cE)
theorem akP(x0 x1 x2 x3 x4 x5 x6 x7:T)(k:T->T->T->T->T->T->T->T->Option (List T)):ku (some [x0,x1,x2,x3,x4,x5,x6,x7]) k=k x0 x1 x2 x3 x4 x5 x6 x7:=rfl
def ML(o:Option (List T))(k:T->T->T->T->T->T->T->T->T->Option (List T)):Option (List T):=o.bind λts=>k (ts.getD 0 T.cE) (ts.getD 1 T.cE) (ts.getD 2 T.cE) (ts.getD 3 T.cE) (ts.getD 4 T.cE) (ts.getD 5 T.cE) (ts.getD 6 T.cE) (ts.getD 7 T.cE) (ts.getD 8 T.cE)
theorem akQ(x0 x1 x2 x3 x4 x5 x6 x7 x8:T)(k:T->T->T->T->T->T->T->T->T->Option (List T)):ML (some [x0,x1,x2,x3,x4,x5,x6,x7,x8]) k=k x0 x1 x2 x3 x4 x5 x6 x7 x8:=rfl
theorem akR(k:af)(b:af->Option (List T)):jn k b=b k:=rfl
def PL.arity(j:Nat):PL->Option Nat
 | .ret _=>none
 | .ins _ k=>k.arity j
 | .ite _ x y=>match x.arity j with|some n=>some n|none=>y.arity j
 | .loop _ b=>b.arity (j+1)
 | .join k b=>match k.arity j with|some n=>some n|none=>b.arity (j+1)
 | .go i xs=>bif Nat.beq i j then some xs.length else none
 | .r7 _ _=>none
def PL.lz(S:Nat->af)(R:Nat)(K:List af)(ρ:List T):PL->Option (List T)
 | .ret xs=>some (xs.map (Lf.ev ρ))
 | .ins (.pr p xs) k=>(p.ev (xs.map (Lf.ev ρ))).bind λt=>k.lz S R K (ρ++[t])
 | .ins (.cl g xs m) k=>(S g (xs.map (Lf.ev ρ))).bind λts=>k.lz S R K (ρ++fS ts 0 m)
 | .ite c x y=>az (ρ.getD c T.cE) (x.lz S R K ρ) (y.lz S R K ρ)
 | .loop xs body=>iter (λself ts=>body.lz S R (self::K) (ρ++fS ts 0 xs.length)) R (xs.map (Lf.ev ρ))
 | .join k body=>jn (λts=>k.lz S R K (ρ++fS ts 0 ((body.arity 0).getD 0))) λf=>body.lz S R (f::K) ρ
 | .go j xs=>match K[j]? with
  |some f=>f (xs.map (Lf.ev ρ))
  |none=>none
 | .r7 _ _=>none
def PL.wf(ar:List Nat):PL->Bool
 | .ret _=>true
 | .ins _ k=>k.wf ar
 | .ite _ x y=>x.wf ar&&y.wf ar
 | .loop xs b=>b.wf (xs.length::ar)
 | .join k b=>k.wf ar&&b.wf ((b.arity 0).getD 0::ar)
 | .go j xs=>match ar[j]? with|some m=>Nat.beq m xs.length|none=>false
 | .r7 _ _=>true
theorem Wm:∀(ts us:List T),fS (us++ts) us.length ts.length=ts
 | [],us=>rfl
 |t::ts,us=>by
  have h:=Wm ts (us++[t])
  rw[List.append_assoc,List.length_append]at h
  simp only[List.length_cons,fS]
  refine congr (congrArg _ ?_) h
  simp
theorem Wn(ts:List T){m:Nat}(h:ts.length=m):fS ts 0 m=ts:=by
 subst h;exact Wm ts []
theorem Wo{F G:af->af}{m:Nat}(h:∀s s',(∀ts:List T,ts.length=m->s ts=s' ts)->∀ts:List T,ts.length=m->F s ts=G s' ts):∀R (ts:List T),ts.length=m->iter F R ts=iter G R ts
 |0,_,_=>rfl
 |R+1,ts,ht=>by
  unfold iter
  exact h _ _ (Wo h R) ts ht
theorem J2(S:Nat->af)(R:Nat):∀(p:PL) (ar:List Nat) (K K':List af) (ρ:List T),p.wf ar=true->
  (∀(j m:Nat),ar[j]?=some m->∃f f':af,K[j]?=some f∧K'[j]?=some f'∧∀ts:List T,ts.length=m->f ts=f' ts)->p.den S R K ρ=p.lz S R K' ρ
 | .ret xs,ar,K,K',ρ,_,_=>by simp only[PL.den,PL.lz]
 | .ins (.pr p xs) k,ar,K,K',ρ,hw,hk=>by
  simp only[PL.den,PL.lz]
  exact congrArg _ (funext λt=>J2 S R k ar K K' _ hw hk)
 | .ins (.cl g xs m) k,ar,K,K',ρ,hw,hk=>by
  simp only[PL.den,PL.lz]
  exact congrArg _ (funext λt=>J2 S R k ar K K' _ hw hk)
 | .ite c x y,ar,K,K',ρ,hw,hk=>by
  simp only[PL.wf,bD]at hw
  rw[nz]
  simp only[PL.lz]
  rw[J2 S R x ar K K' ρ hw.1 hk,J2 S R y ar K K' ρ hw.2 hk]
 | .loop xs b,ar,K,K',ρ,hw,hk=>by
  simp only[PL.den,PL.lz]
  refine Wo (m:=xs.length) (λs s' hs ts ht=>?_) R _ (by simp)
  rw[Wn ts ht]
  refine J2 S R b (xs.length::ar) _ _ _ hw λj m hj=>?_
  cases j with
  |zero=>cases hj;exact⟨s,s',rfl,rfl,hs⟩
  |succ j=>exact hk j m hj
 | .join k b,ar,K,K',ρ,hw,hk=>by
  simp only[PL.wf,bD]at hw
  simp only[PL.den,PL.lz,jn]
  refine J2 S R b ((b.arity 0).getD 0::ar) _ _ _ hw.2 λj m hj=>?_
  cases j with
  |zero=>
   cases hj
   refine⟨_,_,rfl,rfl,λts ht=>?_⟩
   show PL.den S R K (ρ++ts) k=PL.lz S R K' (ρ++fS ts 0 _) k
   rw[Wn ts ht]
   exact J2 S R k ar K K' _ hw.1 hk
  |succ j=>exact hk j m hj
 | .go j xs,ar,K,K',ρ,hw,hk=>by
  simp only[PL.wf]at hw
  cases hm:ar[j]? with
  |none=>rw[hm]at hw;exact absurd hw (by simp)
  |some m=>
   rw[hm]at hw
   have qp:=ef hw
   obtain⟨f,f',h1,h2,h3⟩:=hk j m hm
   simp only[PL.den,PL.lz,h1,h2]
   exact h3 _ (by simp[qp])
 | .r7 _ _,ar,K,K',ρ,_,_=>by simp only[PL.den,PL.lz]
theorem cY{S:Nat->af}{R:Nat}{p:PL}{ρ:List T}(h:p.wf []=true):p.den S R [] ρ=p.lz S R [] ρ:=
 J2 S R p [] [] [] ρ h λj m hj=>by simp at hj
set_option linter.unusedSimpArgs false
abbrev ii(n:Int):T:=.c (.int .i64 n)
abbrev bb(b:Bool):T:=.c (.bool b)
def jD(n:Int):Prop:=(Lit.int .i64 n).wf=true
theorem jD.lo{n:Int}(h:jD n):-9223372036854775808<=n:=by
 simp[jD,Lit.wf,IntKind.min,IntKind.max,IntKind.signed,IntKind.bits]at h;omega
theorem jD.hi{n:Int}(h:jD n):n<9223372036854775808:=by
 simp[jD,Lit.wf,IntKind.min,IntKind.max,IntKind.signed,IntKind.bits]at h;omega
theorem jD.mk{n:Int}(h:-9223372036854775808<=n)(h':n<9223372036854775808):jD n:=by
 simp[jD,Lit.wf,IntKind.min,IntKind.max,IntKind.signed,IntKind.bits];omega
def gt{α:Type} [Inhabited α](l:List α)(n:Int):α:=l.getD n.toNat default
theorem dR{α:Type} [Inhabited α]{enc:α->List T}{l:List α}{n:Int}(h:0<=n)(h':n<l.length):(l.map enc)[n.toNat]?=some (enc (gt l n)):=by
 have hn:n.toNat<l.length:=by omega
 rw[List.getElem?_map,List.getElem?_eq_getElem hn]
 simp[gt,List.getD,List.getElem?_eq_getElem hn]
theorem MM{α:Type} [Inhabited α]{l:List α}{i:Nat}{a:α}(h:l[i]?=some a):gt l (i:Int)=a:=by
 simp[gt,List.getD,h]
theorem eC{α:Type} [Inhabited α]{l:List α}{i:Nat}(h:i<l.length):gt l (i:Int)=l[i]:=MM (List.getElem?_eq_getElem h)
theorem lg{α:Type} [Inhabited α]{l:List α}{n:Int}(h:0<=n)(h':n<l.length):gt l n∈l:=by
 have hn:n.toNat<l.length:=by omega
 simp[gt,List.getD,List.getElem?_eq_getElem hn]
theorem Cy{xs:List (List T)}{n:Int}{r:List T}(h0:0<=n)(h:xs[n.toNat]?=some r):vK (.l xs) (ii n)=some r:=by
 simp[vK,T.rows,T.int,h0,h]
theorem xg{α:Type} [Inhabited α]{enc:α->List T}{l:List α}{n:Int}(h:0<=n)(h':n<l.length):Prim.ev .dC [.l (l.map enc),ii n]=some (bb true):=by
 simp[Prim.ev,Cy h (dR (enc:=enc) h h')]
theorem iO{xs:List (List T)}{n:Int}{w j:Nat}{r:List T}{t:T}(h0:0<=n)(h:xs[n.toNat]?=some r)(hw:r.length=w)(hj:r[j]?=some t):Prim.ev (.cell w j) [.l xs,ii n]=some t:=by
 simp[Prim.ev,Cy h0 h,hw,hj]
theorem lO{xs:List (List T)}{n:Int}{w j:Nat}{r:List T}{t:T}(h0:0<=n)(h:xs[n.toNat]?=some r)(hw:r.length=w)(hj:r[j]?=some t)(hs:eQ t=true):Prim.ev (.bq w j) [.l xs,ii n]=some t:=by
 simp[Prim.ev,Cy h0 h,hw,hj,hs]
theorem zL{xs ys:List (List T)}{n:Int}{w j:Nat}{r:List T}(h0:0<=n)(h:xs[n.toNat]?=some r)(hw:r.length=w)(hj:r[j]?=some (.l ys)):Prim.ev (.dE w j) [.l xs,ii n]=some (.l ys):=by
 simp[Prim.ev,Cy h0 h,hw,hj,T.rows]
theorem GY{α:Type}{enc:α->List T}{l:List α}:Prim.ev .len [.l (l.map enc)]=some (ii l.length):=by
 rw[pY,List.length_map]
theorem GZ{α:Type}{enc:α->List T}{w:Nat}(hw:∀x,(enc x).length=w)(l:List α):okW w (l.map enc)=true:=by
 cases l with
 |nil=>rfl
 |cons x l=>simp[okW,hw]
theorem td{α:Type}{enc:α->List T}{w:Nat}{sc:Bool}(hw:∀x,(enc x).length=w)(hs:sc=false∨∀x,(enc x).all eQ=true){l m:List α}(h:l.length+m.length<r8):Prim.ev (.app sc w) [.l (l.map enc),.l (m.map enc)]=some (.l ((l++m).map enc)):=by
 rw[List.map_append]
 refine aj' (by simpa using h) ?_ (GZ hw l) (GZ hw m)
 rcases hs with rfl|hs
 ·rfl
 ·have:(m.map enc).all (·.all eQ)=true:=by simp only[List.all_map,List.all_eq_true];exactλx _=>hs x
  rw[this];simp
theorem vk{α:Type}{enc:α->List T}{w:Nat}{sc:Bool}(hw:∀x,(enc x).length=w)(hs:sc=false∨∀x,(enc x).all eQ=true){m:List α}(h:m.length<r8):Prim.ev (.app sc w) [.l [],.l (m.map enc)]=some (.l (m.map enc)):=
 td (l:=[]) hw hs (by simpa using h)
theorem Cz{α:Type}{enc:α->List T}{w:Nat}(hw:∀x,(enc x).length=w){l:List α}{a:Int}(h:0<=a)(h':a<=l.length):Prim.ev (.sub w true false) [.l (l.map enc),ii a]=some (.l ((l.drop a.toNat).map enc)):=by
 simp only[Prim.ev,GZ hw l,if_true,List.length_map,eB,h,h']
 rw[if_pos (by omega)]
 have:((l.map enc).take (l.length:Int).toNat).drop a.toNat=(l.drop a.toNat).map enc:=by
  rw[List.map_drop,Int.toNat_natCast,List.take_of_length_le (by simp)]
 rw[this]
theorem CA{α:Type}{enc:α->List T}{w:Nat}(hw:∀x,(enc x).length=w){l:List α}{a:Int}(h:0<=a)(h':a<=l.length):Prim.ev (.sub w false true) [.l (l.map enc),ii a]=some (.l ((l.take a.toNat).map enc)):=by
 simp only[Prim.ev,GZ hw l,if_true,List.length_map,eB,h,h',Int.le_refl,Int.toNat_zero,List.drop_zero,List.map_take]
theorem G0{α:Type}{enc:α->List T}{ok:α->Prop}{ty:List Ty}(h:∀r,cW ty r->∃x,r=enc x∧ok x):∀{xs:List (List T)},(∀r∈xs,cW ty r)->∃l:List α,xs=l.map enc∧∀x∈l,ok x
 | [],_=>⟨[],rfl,by simp⟩
 |r::xs,hx=>by
  obtain⟨x,rfl,h1⟩:=h r (hx _ (.head _))
  obtain⟨l,rfl,h2⟩:=G0 h (xs:=xs) λr hr=>hx r (.tail _ hr)
  refine⟨x::l,rfl,?_⟩
  intro y hy
  rcases List.mem_cons.1 hy with rfl|hy
  ·exact h1
  ·exact h2 y hy
theorem rR{α:Type}{enc:α->List T}{ok:α->Prop}{ty:List Ty}(h:∀x,ok x->cW ty (enc x)){l:List α}(hl:∀x∈l,ok x):∀r∈l.map enc,cW ty r:=by
 intro r hr
 obtain⟨x,hx,rfl⟩:=List.mem_map.1 hr
 exact h x (hl x hx)
def fb{α:Type}(f:α->Nat):List α->Nat
 | []=>0
 |x::l=>1+(f x+fb f l)
theorem rS{α:Type}{enc:α->List T}{f:α->Nat}(h:∀x,lN (enc x)=f x)(l:List α):gV (l.map enc)=fb f l:=by
 induction l with
 |nil=>simp[gV,fb]
 |cons x l ih=>simp only[List.map_cons,gV,fb,h,ih]
theorem J3{α:Type}{f:α->Nat}(l:List α):l.length<=fb f l:=by
 induction l with
 |nil=>exact Nat.le_refl _
 |cons x l ih=>simp only[List.length_cons,fb];omega
theorem akS{α:Type}{f:α->Nat}{l:List α}{x:α}(h:x∈l):f x+1<=fb f l:=by
 induction l with
 |nil=>cases h
 |cons y l ih=>
  simp only[fb]
  rcases List.mem_cons.1 h with rfl|h
  ·omega
  ·have:=ih h;omega
def aB(n:Int):List T:=[ii n]
def iz:List Ty:=[.i .i64]
def vl(n:Int):Prop:=jD n
theorem Wp(r:List T)(h:cW iz r):∃n,r=aB n∧vl n:=by
 obtain⟨_,_,rfl,⟨n,rfl,hn⟩,rfl⟩:=mJ h
 exact⟨n,rfl,hn⟩
theorem CB(n:Int)(h:vl n):cW iz (aB n):=kq ⟨_,_,rfl,⟨_,rfl,h⟩,rfl⟩
def tg(_:Int):Nat:=0
theorem CC(n:Int):lN (aB n)=tg n:=by simp only[aB,fa,fy,gf,tg]
def jY(b:Bool):List T:=[bb b]
theorem Wq:∀{fs gs:List Ty} {ts:List T},cW (fs++gs) ts->∃a b,ts=a++b∧cW fs a∧cW gs b
 | [],gs,ts,h=>⟨[],ts,rfl,by unfold cW;rfl,h⟩
 |f::fs,gs,ts,h=>by
  have h:cW (f::(fs++gs)) ts:=h
  unfold cW at h
  obtain⟨t,mi,rfl,h1,h2⟩:=h
  obtain⟨a,b,rfl,h3,h4⟩:=Wq h2
  refine⟨t::a,b,rfl,?_,h4⟩
  unfold cW
  exact⟨t,a,rfl,h1,h3⟩
theorem akT{l:List Int}{n:Int}(h:0<=n)(h':n<l.length):Prim.ev (.cell 1 0) [.l (l.map aB),ii n]=some (ii (gt l n)):=iO h (dR h h') rfl rfl
theorem akU{l:List Int}{n:Int}(h:0<=n)(h':n<l.length):Prim.ev (.bq 1 0) [.l (l.map aB),ii n]=some (ii (gt l n)):=lO h (dR h h') rfl rfl rfl
theorem Wr{l m:List Int}(h:l.length+m.length<4294967296):Prim.ev (.app false 1) [.l (l.map aB),.l (m.map aB)]=some (.l ((l++m).map aB)):=td (w:=1) (λ_=>rfl) (.inl rfl) h
theorem Ws{m:List Int}(h:m.length<4294967296):Prim.ev (.app false 1) [.l [],.l (m.map aB)]=some (.l (m.map aB)):=vk (w:=1) (λ_=>rfl) (.inl rfl) h
theorem CD{l m:List Int}(h:l.length+m.length<4294967296):Prim.ev (.app true 1) [.l (l.map aB),.l (m.map aB)]=some (.l ((l++m).map aB)):=td (w:=1) (λ_=>rfl) (.inr λ_=>rfl) h
theorem Wt{m:List Int}(h:m.length<4294967296):Prim.ev (.app true 1) [.l [],.l (m.map aB)]=some (.l (m.map aB)):=vk (w:=1) (λ_=>rfl) (.inr λ_=>rfl) h
theorem akV{l:List Int}{x:Int}(h:l.length<4294967295):Prim.ev (.app false 1) [.l (l.map aB),.l ([x].map aB)]=some (.l ((l++[x]).map aB)):=Wr (by simp;omega)
theorem akW{x:Int}:Prim.ev (.app false 1) [.l [],.l ([x].map aB)]=some (.l ([x].map aB)):=Ws (by simp)
theorem G4{l:List Int}{x:Int}(h:l.length<4294967295):Prim.ev (.app true 1) [.l (l.map aB),.l ([x].map aB)]=some (.l ((l++[x]).map aB)):=CD (by simp;omega)
theorem akX{x:Int}:Prim.ev (.app true 1) [.l [],.l ([x].map aB)]=some (.l ([x].map aB)):=Wt (by simp)
theorem akY{l:List Int}{a:Int}(h:0<=a)(h':a<=l.length):Prim.ev (.sub 1 true false) [.l (l.map aB),ii a]=some (.l ((l.drop a.toNat).map aB)):=Cz (enc:=aB) (w:=1) (λ_=>rfl) h h'
theorem akZ{l:List Int}{a:Int}(h:0<=a)(h':a<=l.length):Prim.ev (.sub 1 false true) [.l (l.map aB),ii a]=some (.l ((l.take a.toNat).map aB)):=CA (enc:=aB) (w:=1) (λ_=>rfl) h h'
theorem ak0(x:Int):Prim.ev (.lit 1 [true]) [ii x]=some (.l ([x].map aB)):=qN (by decide) rfl rfl
theorem ak1(x:Int):Prim.ev (.lit 1 []) [ii x]=some (.l ([x].map aB)):=qN (by decide) rfl rfl
theorem ak2{l:List Bool}{n:Int}(h:0<=n)(h':n<l.length):Prim.ev (.cell 1 0) [.l (l.map jY),ii n]=some (bb (gt l n)):=iO h (dR h h') rfl rfl
theorem ak3{l:List Bool}{n:Int}(h:0<=n)(h':n<l.length):Prim.ev (.bq 1 0) [.l (l.map jY),ii n]=some (bb (gt l n)):=lO h (dR h h') rfl rfl rfl
theorem Wu{l m:List Bool}(h:l.length+m.length<4294967296):Prim.ev (.app false 1) [.l (l.map jY),.l (m.map jY)]=some (.l ((l++m).map jY)):=td (w:=1) (λ_=>rfl) (.inl rfl) h
theorem Wv{m:List Bool}(h:m.length<4294967296):Prim.ev (.app false 1) [.l [],.l (m.map jY)]=some (.l (m.map jY)):=vk (w:=1) (λ_=>rfl) (.inl rfl) h
theorem Ww{l m:List Bool}(h:l.length+m.length<4294967296):Prim.ev (.app true 1) [.l (l.map jY),.l (m.map jY)]=some (.l ((l++m).map jY)):=td (w:=1) (λ_=>rfl) (.inr λ_=>rfl) h
theorem Wx{m:List Bool}(h:m.length<4294967296):Prim.ev (.app true 1) [.l [],.l (m.map jY)]=some (.l (m.map jY)):=vk (w:=1) (λ_=>rfl) (.inr λ_=>rfl) h
theorem ak4{l:List Bool}{x:Bool}(h:l.length<4294967295):Prim.ev (.app false 1) [.l (l.map jY),.l ([x].map jY)]=some (.l ((l++[x]).map jY)):=Wu (by simp;omega)
theorem ak5{x:Bool}:Prim.ev (.app false 1) [.l [],.l ([x].map jY)]=some (.l ([x].map jY)):=Wv (by simp)
theorem ak6{l:List Bool}{x:Bool}(h:l.length<4294967295):Prim.ev (.app true 1) [.l (l.map jY),.l ([x].map jY)]=some (.l ((l++[x]).map jY)):=Ww (by simp;omega)
theorem ak7{x:Bool}:Prim.ev (.app true 1) [.l [],.l ([x].map jY)]=some (.l ([x].map jY)):=Wx (by simp)
theorem ak8{l:List Bool}{a:Int}(h:0<=a)(h':a<=l.length):Prim.ev (.sub 1 true false) [.l (l.map jY),ii a]=some (.l ((l.drop a.toNat).map jY)):=Cz (enc:=jY) (w:=1) (λ_=>rfl) h h'
theorem ak9{l:List Bool}{a:Int}(h:0<=a)(h':a<=l.length):Prim.ev (.sub 1 false true) [.l (l.map jY),ii a]=some (.l ((l.take a.toNat).map jY)):=CA (enc:=jY) (w:=1) (λ_=>rfl) h h'
theorem ak_(x:Bool):Prim.ev (.lit 1 [true]) [bb x]=some (.l ([x].map jY)):=qN (by decide) rfl rfl
theorem ak'(x:Bool):Prim.ev (.lit 1 []) [bb x]=some (.l ([x].map jY)):=qN (by decide) rfl rfl
structure bO where
 a:Int
 b:Int
 cost:Int
 ae:Int
 deriving Inhabited
def dB(x:bO):List T:=[ii x.a,ii x.b,ii x.cost,ii x.ae]
def rz:List Ty:=[.i .i64,.i .i64,.i .i64,.i .i64]
def G5(x:bO):Prop:=jD x.a∧jD x.b∧jD x.cost∧jD x.ae
theorem ala(r:List T)(h:cW rz r):∃x,r=dB x∧G5 x:=by
 obtain⟨_,_,rfl,⟨v0,rfl,h0⟩,_,_,rfl,⟨v1,rfl,h1⟩,_,_,rfl,⟨v2,rfl,h2⟩,_,_,rfl,⟨v3,rfl,h3⟩,rfl⟩:=mJ h
 exact⟨⟨v0,v1,v2,v3⟩,rfl,h0,h1,h2,h3⟩
theorem MN(x:bO)(h:G5 x):cW rz (dB x):=by
 obtain⟨h0,h1,h2,h3⟩:=h
 exact kq ⟨_,_,rfl,⟨_,rfl,h0⟩,_,_,rfl,⟨_,rfl,h1⟩,_,_,rfl,⟨_,rfl,h2⟩,_,_,rfl,⟨_,rfl,h3⟩,rfl⟩
def zM(x:bO):Nat:=0
theorem MO(x:bO):lN (dB x)=zM x:=by
 simp only[dB,zM,fa,fy,gf,gn,fv,Nat.add_zero,Nat.zero_add]
theorem alb{l:List bO}{n:Int}(h:0<=n)(h':n<l.length):Prim.ev (.cell 4 0) [.l (l.map dB),ii n]=some (ii (gt l n).a):=iO h (dR h h') rfl rfl
theorem alc{l:List bO}{n:Int}(h:0<=n)(h':n<l.length):Prim.ev (.bq 4 0) [.l (l.map dB),ii n]=some (ii (gt l n).a):=lO h (dR h h') rfl rfl rfl
theorem ald{l:List bO}{n:Int}(h:0<=n)(h':n<l.length):Prim.ev (.cell 4 1) [.l (l.map dB),ii n]=some (ii (gt l n).b):=iO h (dR h h') rfl rfl
theorem ale{l:List bO}{n:Int}(h:0<=n)(h':n<l.length):Prim.ev (.bq 4 1) [.l (l.map dB),ii n]=some (ii (gt l n).b):=lO h (dR h h') rfl rfl rfl
theorem alf{l:List bO}{n:Int}(h:0<=n)(h':n<l.length):Prim.ev (.cell 4 2) [.l (l.map dB),ii n]=some (ii (gt l n).cost):=iO h (dR h h') rfl rfl
theorem alg{l:List bO}{n:Int}(h:0<=n)(h':n<l.length):Prim.ev (.bq 4 2) [.l (l.map dB),ii n]=some (ii (gt l n).cost):=lO h (dR h h') rfl rfl rfl
theorem alh{l:List bO}{n:Int}(h:0<=n)(h':n<l.length):Prim.ev (.cell 4 3) [.l (l.map dB),ii n]=some (ii (gt l n).ae):=iO h (dR h h') rfl rfl
theorem ali{l:List bO}{n:Int}(h:0<=n)(h':n<l.length):Prim.ev (.bq 4 3) [.l (l.map dB),ii n]=some (ii (gt l n).ae):=lO h (dR h h') rfl rfl rfl
theorem Wy{l m:List bO}(h:l.length+m.length<4294967296):Prim.ev (.app false 4) [.l (l.map dB),.l (m.map dB)]=some (.l ((l++m).map dB)):=td (w:=4) (λ_=>rfl) (.inl rfl) h
theorem Wz{m:List bO}(h:m.length<4294967296):Prim.ev (.app false 4) [.l [],.l (m.map dB)]=some (.l (m.map dB)):=vk (w:=4) (λ_=>rfl) (.inl rfl) h
theorem WC{l m:List bO}(h:l.length+m.length<4294967296):Prim.ev (.app true 4) [.l (l.map dB),.l (m.map dB)]=some (.l ((l++m).map dB)):=td (w:=4) (λ_=>rfl) (.inr λ_=>rfl) h
theorem WD{m:List bO}(h:m.length<4294967296):Prim.ev (.app true 4) [.l [],.l (m.map dB)]=some (.l (m.map dB)):=vk (w:=4) (λ_=>rfl) (.inr λ_=>rfl) h
theorem alj{l:List bO}{x:bO}(h:l.length<4294967295):Prim.ev (.app false 4) [.l (l.map dB),.l ([x].map dB)]=some (.l ((l++[x]).map dB)):=Wy (by simp;omega)
theorem alk{x:bO}:Prim.ev (.app false 4) [.l [],.l ([x].map dB)]=some (.l ([x].map dB)):=Wz (by simp)
theorem alm{l:List bO}{x:bO}(h:l.length<4294967295):Prim.ev (.app true 4) [.l (l.map dB),.l ([x].map dB)]=some (.l ((l++[x]).map dB)):=WC (by simp;omega)
theorem aln{x:bO}:Prim.ev (.app true 4) [.l [],.l ([x].map dB)]=some (.l ([x].map dB)):=WD (by simp)
theorem alo{l:List bO}{a:Int}(h:0<=a)(h':a<=l.length):Prim.ev (.sub 4 true false) [.l (l.map dB),ii a]=some (.l ((l.drop a.toNat).map dB)):=Cz (enc:=dB) (w:=4) (λ_=>rfl) h h'
theorem alp{l:List bO}{a:Int}(h:0<=a)(h':a<=l.length):Prim.ev (.sub 4 false true) [.l (l.map dB),ii a]=some (.l ((l.take a.toNat).map dB)):=CA (enc:=dB) (w:=4) (λ_=>rfl) h h'
theorem alq(v0:Int)(v1:Int)(v2:Int)(v3:Int):Prim.ev (.lit 4 [true,true,true,true]) [ii v0,ii v1,ii v2,ii v3]=some (.l ([(⟨v0,v1,v2,v3⟩:bO)].map dB)):=qN (by decide) rfl rfl
theorem alr(v0:Int)(v1:Int)(v2:Int)(v3:Int):Prim.ev (.lit 4 []) [ii v0,ii v1,ii v2,ii v3]=some (.l ([(⟨v0,v1,v2,v3⟩:bO)].map dB)):=qN (by decide) rfl rfl
theorem als(x:bO):(⟨x.a,x.b,x.cost,x.ae⟩:bO)=x:=rfl
structure cg where
 owner:Int
 key:Int
 cost:Int
 eY:Bool
 deriving Inhabited
def ed(x:cg):List T:=[ii x.owner,ii x.key,ii x.cost,bb x.eY]
def rA:List Ty:=[.i .i64,.i .i64,.i .i64,.b]
def G6(x:cg):Prop:=jD x.owner∧jD x.key∧jD x.cost
theorem alt(r:List T)(h:cW rA r):∃x,r=ed x∧G6 x:=by
 obtain⟨_,_,rfl,⟨v0,rfl,h0⟩,_,_,rfl,⟨v1,rfl,h1⟩,_,_,rfl,⟨v2,rfl,h2⟩,_,_,rfl,⟨v3,rfl⟩,rfl⟩:=mJ h
 exact⟨⟨v0,v1,v2,v3⟩,rfl,h0,h1,h2⟩
theorem MP(x:cg)(h:G6 x):cW rA (ed x):=by
 obtain⟨h0,h1,h2⟩:=h
 exact kq ⟨_,_,rfl,⟨_,rfl,h0⟩,_,_,rfl,⟨_,rfl,h1⟩,_,_,rfl,⟨_,rfl,h2⟩,_,_,rfl,⟨_,rfl⟩,rfl⟩
def zN(x:cg):Nat:=0
theorem MQ(x:cg):lN (ed x)=zN x:=by
 simp only[ed,zN,fa,fy,gf,gn,fv,Nat.add_zero,Nat.zero_add]
theorem alu{l:List cg}{n:Int}(h:0<=n)(h':n<l.length):Prim.ev (.cell 4 0) [.l (l.map ed),ii n]=some (ii (gt l n).owner):=iO h (dR h h') rfl rfl
theorem alv{l:List cg}{n:Int}(h:0<=n)(h':n<l.length):Prim.ev (.bq 4 0) [.l (l.map ed),ii n]=some (ii (gt l n).owner):=lO h (dR h h') rfl rfl rfl
theorem alw{l:List cg}{n:Int}(h:0<=n)(h':n<l.length):Prim.ev (.cell 4 1) [.l (l.map ed),ii n]=some (ii (gt l n).key):=iO h (dR h h') rfl rfl
theorem alx{l:List cg}{n:Int}(h:0<=n)(h':n<l.length):Prim.ev (.bq 4 1) [.l (l.map ed),ii n]=some (ii (gt l n).key):=lO h (dR h h') rfl rfl rfl
theorem aly{l:List cg}{n:Int}(h:0<=n)(h':n<l.length):Prim.ev (.cell 4 2) [.l (l.map ed),ii n]=some (ii (gt l n).cost):=iO h (dR h h') rfl rfl
theorem alz{l:List cg}{n:Int}(h:0<=n)(h':n<l.length):Prim.ev (.bq 4 2) [.l (l.map ed),ii n]=some (ii (gt l n).cost):=lO h (dR h h') rfl rfl rfl
theorem alA{l:List cg}{n:Int}(h:0<=n)(h':n<l.length):Prim.ev (.cell 4 3) [.l (l.map ed),ii n]=some (bb (gt l n).eY):=iO h (dR h h') rfl rfl
theorem alB{l:List cg}{n:Int}(h:0<=n)(h':n<l.length):Prim.ev (.bq 4 3) [.l (l.map ed),ii n]=some (bb (gt l n).eY):=lO h (dR h h') rfl rfl rfl
theorem WE{l m:List cg}(h:l.length+m.length<4294967296):Prim.ev (.app false 4) [.l (l.map ed),.l (m.map ed)]=some (.l ((l++m).map ed)):=td (w:=4) (λ_=>rfl) (.inl rfl) h
theorem WG{m:List cg}(h:m.length<4294967296):Prim.ev (.app false 4) [.l [],.l (m.map ed)]=some (.l (m.map ed)):=vk (w:=4) (λ_=>rfl) (.inl rfl) h
theorem WH{l m:List cg}(h:l.length+m.length<4294967296):Prim.ev (.app true 4) [.l (l.map ed),.l (m.map ed)]=some (.l ((l++m).map ed)):=td (w:=4) (λ_=>rfl) (.inr λ_=>rfl) h
theorem WI{m:List cg}(h:m.length<4294967296):Prim.ev (.app true 4) [.l [],.l (m.map ed)]=some (.l (m.map ed)):=vk (w:=4) (λ_=>rfl) (.inr λ_=>rfl) h
theorem alC{l:List cg}{x:cg}(h:l.length<4294967295):Prim.ev (.app false 4) [.l (l.map ed),.l ([x].map ed)]=some (.l ((l++[x]).map ed)):=WE (by simp;omega)
theorem alD{x:cg}:Prim.ev (.app false 4) [.l [],.l ([x].map ed)]=some (.l ([x].map ed)):=WG (by simp)
theorem alE{l:List cg}{x:cg}(h:l.length<4294967295):Prim.ev (.app true 4) [.l (l.map ed),.l ([x].map ed)]=some (.l ((l++[x]).map ed)):=WH (by simp;omega)
theorem alF{x:cg}:Prim.ev (.app true 4) [.l [],.l ([x].map ed)]=some (.l ([x].map ed)):=WI (by simp)
theorem alG{l:List cg}{a:Int}(h:0<=a)(h':a<=l.length):Prim.ev (.sub 4 true false) [.l (l.map ed),ii a]=some (.l ((l.drop a.toNat).map ed)):=Cz (enc:=ed) (w:=4) (λ_=>rfl) h h'
theorem alH{l:List cg}{a:Int}(h:0<=a)(h':a<=l.length):Prim.ev (.sub 4 false true) [.l (l.map ed),ii a]=some (.l ((l.take a.toNat).map ed)):=CA (enc:=ed) (w:=4) (λ_=>rfl) h h'
theorem alI(x:cg):(⟨x.owner,x.key,x.cost,x.eY⟩:cg)=x:=rfl
structure Net where
 n:Int
 aE:List bO
 aM:List cg
 deriving Inhabited
structure cB where
 to:Int
 cost:Int
 deriving Inhabited
def fe(x:cB):List T:=[ii x.to,ii x.cost]
def MR:List Ty:=[.i .i64,.i .i64]
def G7(x:cB):Prop:=jD x.to∧jD x.cost
theorem alJ(r:List T)(h:cW MR r):∃x,r=fe x∧G7 x:=by
 obtain⟨_,_,rfl,⟨v0,rfl,h0⟩,_,_,rfl,⟨v1,rfl,h1⟩,rfl⟩:=mJ h
 exact⟨⟨v0,v1⟩,rfl,h0,h1⟩
theorem alK(x:cB)(h:G7 x):cW MR (fe x):=by
 obtain⟨h0,h1⟩:=h
 exact kq ⟨_,_,rfl,⟨_,rfl,h0⟩,_,_,rfl,⟨_,rfl,h1⟩,rfl⟩
def xh(x:cB):Nat:=0
theorem alL(x:cB):lN (fe x)=xh x:=by
 simp only[fe,xh,fa,fy,gf,gn,fv,Nat.add_zero,Nat.zero_add]
theorem alM{l:List cB}{n:Int}(h:0<=n)(h':n<l.length):Prim.ev (.cell 2 0) [.l (l.map fe),ii n]=some (ii (gt l n).to):=iO h (dR h h') rfl rfl
theorem alN{l:List cB}{n:Int}(h:0<=n)(h':n<l.length):Prim.ev (.bq 2 0) [.l (l.map fe),ii n]=some (ii (gt l n).to):=lO h (dR h h') rfl rfl rfl
theorem alO{l:List cB}{n:Int}(h:0<=n)(h':n<l.length):Prim.ev (.cell 2 1) [.l (l.map fe),ii n]=some (ii (gt l n).cost):=iO h (dR h h') rfl rfl
theorem alP{l:List cB}{n:Int}(h:0<=n)(h':n<l.length):Prim.ev (.bq 2 1) [.l (l.map fe),ii n]=some (ii (gt l n).cost):=lO h (dR h h') rfl rfl rfl
theorem WJ{l m:List cB}(h:l.length+m.length<4294967296):Prim.ev (.app false 2) [.l (l.map fe),.l (m.map fe)]=some (.l ((l++m).map fe)):=td (w:=2) (λ_=>rfl) (.inl rfl) h
theorem WK{m:List cB}(h:m.length<4294967296):Prim.ev (.app false 2) [.l [],.l (m.map fe)]=some (.l (m.map fe)):=vk (w:=2) (λ_=>rfl) (.inl rfl) h
theorem WL{l m:List cB}(h:l.length+m.length<4294967296):Prim.ev (.app true 2) [.l (l.map fe),.l (m.map fe)]=some (.l ((l++m).map fe)):=td (w:=2) (λ_=>rfl) (.inr λ_=>rfl) h
theorem WM{m:List cB}(h:m.length<4294967296):Prim.ev (.app true 2) [.l [],.l (m.map fe)]=some (.l (m.map fe)):=vk (w:=2) (λ_=>rfl) (.inr λ_=>rfl) h
theorem alQ{l:List cB}{x:cB}(h:l.length<4294967295):Prim.ev (.app false 2) [.l (l.map fe),.l ([x].map fe)]=some (.l ((l++[x]).map fe)):=WJ (by simp;omega)
theorem alR{x:cB}:Prim.ev (.app false 2) [.l [],.l ([x].map fe)]=some (.l ([x].map fe)):=WK (by simp)
theorem alS{l:List cB}{x:cB}(h:l.length<4294967295):Prim.ev (.app true 2) [.l (l.map fe),.l ([x].map fe)]=some (.l ((l++[x]).map fe)):=WL (by simp;omega)
theorem alT{x:cB}:Prim.ev (.app true 2) [.l [],.l ([x].map fe)]=some (.l ([x].map fe)):=WM (by simp)
theorem alU{l:List cB}{a:Int}(h:0<=a)(h':a<=l.length):Prim.ev (.sub 2 true false) [.l (l.map fe),ii a]=some (.l ((l.drop a.toNat).map fe)):=Cz (enc:=fe) (w:=2) (λ_=>rfl) h h'
theorem alV{l:List cB}{a:Int}(h:0<=a)(h':a<=l.length):Prim.ev (.sub 2 false true) [.l (l.map fe),ii a]=some (.l ((l.take a.toNat).map fe)):=CA (enc:=fe) (w:=2) (λ_=>rfl) h h'
theorem alW(v0:Int)(v1:Int):Prim.ev (.lit 2 [true,true]) [ii v0,ii v1]=some (.l ([(⟨v0,v1⟩:cB)].map fe)):=qN (by decide) rfl rfl
theorem alX(v0:Int)(v1:Int):Prim.ev (.lit 2 []) [ii v0,ii v1]=some (.l ([(⟨v0,v1⟩:cB)].map fe)):=qN (by decide) rfl rfl
theorem alY(x:cB):(⟨x.to,x.cost⟩:cB)=x:=rfl
structure ah where
 ae:Int
 kind:Int
 owner:Int
 key:Int
 seq:Int
 aV:List cB
 cost:Int
 eY:Bool
 deriving Inhabited
def ai(x:ah):List T:=[ii x.ae,ii x.kind,ii x.owner,ii x.key,ii x.seq,.l (x.aV.map fe),ii x.cost,bb x.eY]
def iA:List Ty:=[.i .i64,.i .i64,.i .i64,.i .i64,.i .i64,.sl MR,.i .i64,.b]
def zO(x:ah):Prop:=jD x.ae∧jD x.kind∧jD x.owner∧jD x.key∧jD x.seq∧(x.aV.length<=maxLen∧∀y∈x.aV,G7 y)∧jD x.cost
theorem WN(r:List T)(h:cW iA r):∃x,r=ai x∧zO x:=by
 obtain⟨_,_,rfl,⟨v0,rfl,h0⟩,_,_,rfl,⟨v1,rfl,h1⟩,_,_,rfl,⟨v2,rfl,h2⟩,_,_,rfl,⟨v3,rfl,h3⟩,_,_,rfl,⟨v4,rfl,h4⟩,t5,_,rfl,q5,_,_,rfl,⟨v6,rfl,h6⟩,_,_,rfl,⟨v7,rfl⟩,rfl⟩:=mJ h
 unfold WT at q5
 obtain⟨z5,rfl,m5,g5⟩:=q5
 obtain⟨v5,rfl,h5⟩:=G0 alJ g5
 rw[List.length_map]at m5
 exact⟨⟨v0,v1,v2,v3,v4,v5,v6,v7⟩,rfl,h0,h1,h2,h3,h4,⟨m5,h5⟩,h6⟩
theorem CE(x:ah)(h:zO x):cW iA (ai x):=by
 obtain⟨h0,h1,h2,h3,h4,h5,h6⟩:=h
 exact kq ⟨_,_,rfl,⟨_,rfl,h0⟩,_,_,rfl,⟨_,rfl,h1⟩,_,_,rfl,⟨_,rfl,h2⟩,_,_,rfl,⟨_,rfl,h3⟩,_,_,rfl,⟨_,rfl,h4⟩,_,_,rfl,tb (by rw[List.length_map];exact h5.1) (rR alK h5.2),_,_,rfl,⟨_,rfl,h6⟩,_,_,rfl,⟨_,rfl⟩,rfl⟩
def zP(x:ah):Nat:=fb xh x.aV
theorem CF(x:ah):lN (ai x)=zP x:=by
 simp only[ai,zP,fa,fy,gf,gn,fv,Nat.add_zero,Nat.zero_add,rS alL]
theorem alZ{l:List ah}{n:Int}(h:0<=n)(h':n<l.length):Prim.ev (.cell 8 0) [.l (l.map ai),ii n]=some (ii (gt l n).ae):=iO h (dR h h') rfl rfl
theorem al0{l:List ah}{n:Int}(h:0<=n)(h':n<l.length):Prim.ev (.bq 8 0) [.l (l.map ai),ii n]=some (ii (gt l n).ae):=lO h (dR h h') rfl rfl rfl
theorem al1{l:List ah}{n:Int}(h:0<=n)(h':n<l.length):Prim.ev (.cell 8 1) [.l (l.map ai),ii n]=some (ii (gt l n).kind):=iO h (dR h h') rfl rfl
theorem al2{l:List ah}{n:Int}(h:0<=n)(h':n<l.length):Prim.ev (.bq 8 1) [.l (l.map ai),ii n]=some (ii (gt l n).kind):=lO h (dR h h') rfl rfl rfl
theorem al3{l:List ah}{n:Int}(h:0<=n)(h':n<l.length):Prim.ev (.cell 8 2) [.l (l.map ai),ii n]=some (ii (gt l n).owner):=iO h (dR h h') rfl rfl
theorem al4{l:List ah}{n:Int}(h:0<=n)(h':n<l.length):Prim.ev (.bq 8 2) [.l (l.map ai),ii n]=some (ii (gt l n).owner):=lO h (dR h h') rfl rfl rfl
theorem al5{l:List ah}{n:Int}(h:0<=n)(h':n<l.length):Prim.ev (.cell 8 3) [.l (l.map ai),ii n]=some (ii (gt l n).key):=iO h (dR h h') rfl rfl
theorem al6{l:List ah}{n:Int}(h:0<=n)(h':n<l.length):Prim.ev (.bq 8 3) [.l (l.map ai),ii n]=some (ii (gt l n).key):=lO h (dR h h') rfl rfl rfl
theorem al7{l:List ah}{n:Int}(h:0<=n)(h':n<l.length):Prim.ev (.cell 8 4) [.l (l.map ai),ii n]=some (ii (gt l n).seq):=iO h (dR h h') rfl rfl
theorem al8{l:List ah}{n:Int}(h:0<=n)(h':n<l.length):Prim.ev (.bq 8 4) [.l (l.map ai),ii n]=some (ii (gt l n).seq):=lO h (dR h h') rfl rfl rfl
theorem al9{l:List ah}{n:Int}(h:0<=n)(h':n<l.length):Prim.ev (.cell 8 5) [.l (l.map ai),ii n]=some (.l ((gt l n).aV.map fe)):=iO h (dR h h') rfl rfl
theorem al_{l:List ah}{n:Int}(h:0<=n)(h':n<l.length):Prim.ev (.dE 8 5) [.l (l.map ai),ii n]=some (.l ((gt l n).aV.map fe)):=zL h (dR h h') rfl rfl
theorem al'{l:List ah}{n:Int}(h:0<=n)(h':n<l.length):Prim.ev (.cell 8 6) [.l (l.map ai),ii n]=some (ii (gt l n).cost):=iO h (dR h h') rfl rfl
theorem ama{l:List ah}{n:Int}(h:0<=n)(h':n<l.length):Prim.ev (.bq 8 6) [.l (l.map ai),ii n]=some (ii (gt l n).cost):=lO h (dR h h') rfl rfl rfl
theorem amb{l:List ah}{n:Int}(h:0<=n)(h':n<l.length):Prim.ev (.cell 8 7) [.l (l.map ai),ii n]=some (bb (gt l n).eY):=iO h (dR h h') rfl rfl
theorem amc{l:List ah}{n:Int}(h:0<=n)(h':n<l.length):Prim.ev (.bq 8 7) [.l (l.map ai),ii n]=some (bb (gt l n).eY):=lO h (dR h h') rfl rfl rfl
theorem WO{l m:List ah}(h:l.length+m.length<4294967296):Prim.ev (.app false 8) [.l (l.map ai),.l (m.map ai)]=some (.l ((l++m).map ai)):=td (w:=8) (λ_=>rfl) (.inl rfl) h
theorem WQ{m:List ah}(h:m.length<4294967296):Prim.ev (.app false 8) [.l [],.l (m.map ai)]=some (.l (m.map ai)):=vk (w:=8) (λ_=>rfl) (.inl rfl) h
theorem amd{l:List ah}{x:ah}(h:l.length<4294967295):Prim.ev (.app false 8) [.l (l.map ai),.l ([x].map ai)]=some (.l ((l++[x]).map ai)):=WO (by simp;omega)
theorem ame{x:ah}:Prim.ev (.app false 8) [.l [],.l ([x].map ai)]=some (.l ([x].map ai)):=WQ (by simp)
theorem amf{l:List ah}{a:Int}(h:0<=a)(h':a<=l.length):Prim.ev (.sub 8 true false) [.l (l.map ai),ii a]=some (.l ((l.drop a.toNat).map ai)):=Cz (enc:=ai) (w:=8) (λ_=>rfl) h h'
theorem amg{l:List ah}{a:Int}(h:0<=a)(h':a<=l.length):Prim.ev (.sub 8 false true) [.l (l.map ai),ii a]=some (.l ((l.take a.toNat).map ai)):=CA (enc:=ai) (w:=8) (λ_=>rfl) h h'
theorem WR(v0:Int)(v1:Int)(v2:Int)(v3:Int)(v4:Int)(v5:List cB)(v6:Int)(v7:Bool):Prim.ev (.lit 8 [true,true,true,true,true,false,true,true]) [ii v0,ii v1,ii v2,ii v3,ii v4,.l (v5.map fe),ii v6,bb v7]=some (.l ([(⟨v0,v1,v2,v3,v4,v5,v6,v7⟩:ah)].map ai)):=qN (by decide) rfl rfl
theorem amh(v0:Int)(v1:Int)(v2:Int)(v3:Int)(v4:Int)(v5:List cB)(v6:Int)(v7:Bool):Prim.ev (.lit 8 []) [ii v0,ii v1,ii v2,ii v3,ii v4,.l (v5.map fe),ii v6,bb v7]=some (.l ([(⟨v0,v1,v2,v3,v4,v5,v6,v7⟩:ah)].map ai)):=qN (by decide) rfl rfl
theorem ami(x:ah):(⟨x.ae,x.kind,x.owner,x.key,x.seq,x.aV,x.cost,x.eY⟩:ah)=x:=rfl
structure Way where
 to:Int
 cost:Int
 aP:List Int
 deriving Inhabited
def bp(x:Way):List T:=[ii x.to,ii x.cost,.l (x.aP.map aB)]
theorem amj{l:List Way}{n:Int}(h:0<=n)(h':n<l.length):Prim.ev (.cell 3 0) [.l (l.map bp),ii n]=some (ii (gt l n).to):=iO h (dR h h') rfl rfl
theorem amk{l:List Way}{n:Int}(h:0<=n)(h':n<l.length):Prim.ev (.bq 3 0) [.l (l.map bp),ii n]=some (ii (gt l n).to):=lO h (dR h h') rfl rfl rfl
theorem aml{l:List Way}{n:Int}(h:0<=n)(h':n<l.length):Prim.ev (.cell 3 1) [.l (l.map bp),ii n]=some (ii (gt l n).cost):=iO h (dR h h') rfl rfl
theorem amm{l:List Way}{n:Int}(h:0<=n)(h':n<l.length):Prim.ev (.bq 3 1) [.l (l.map bp),ii n]=some (ii (gt l n).cost):=lO h (dR h h') rfl rfl rfl
theorem amn{l:List Way}{n:Int}(h:0<=n)(h':n<l.length):Prim.ev (.cell 3 2) [.l (l.map bp),ii n]=some (.l ((gt l n).aP.map aB)):=iO h (dR h h') rfl rfl
theorem amo{l:List Way}{n:Int}(h:0<=n)(h':n<l.length):Prim.ev (.dE 3 2) [.l (l.map bp),ii n]=some (.l ((gt l n).aP.map aB)):=zL h (dR h h') rfl rfl
theorem J4{l m:List Way}(h:l.length+m.length<4294967296):Prim.ev (.app false 3) [.l (l.map bp),.l (m.map bp)]=some (.l ((l++m).map bp)):=td (w:=3) (λ_=>rfl) (.inl rfl) h
theorem J5{m:List Way}(h:m.length<4294967296):Prim.ev (.app false 3) [.l [],.l (m.map bp)]=some (.l (m.map bp)):=vk (w:=3) (λ_=>rfl) (.inl rfl) h
theorem MS{l:List Way}{x:Way}(h:l.length<4294967295):Prim.ev (.app false 3) [.l (l.map bp),.l ([x].map bp)]=some (.l ((l++[x]).map bp)):=J4 (by simp;omega)
theorem amp{x:Way}:Prim.ev (.app false 3) [.l [],.l ([x].map bp)]=some (.l ([x].map bp)):=J5 (by simp)
theorem amq{l:List Way}{a:Int}(h:0<=a)(h':a<=l.length):Prim.ev (.sub 3 true false) [.l (l.map bp),ii a]=some (.l ((l.drop a.toNat).map bp)):=Cz (enc:=bp) (w:=3) (λ_=>rfl) h h'
theorem amr{l:List Way}{a:Int}(h:0<=a)(h':a<=l.length):Prim.ev (.sub 3 false true) [.l (l.map bp),ii a]=some (.l ((l.take a.toNat).map bp)):=CA (enc:=bp) (w:=3) (λ_=>rfl) h h'
theorem ams(v0:Int)(v1:Int)(v2:List Int):Prim.ev (.lit 3 [true,true,false]) [ii v0,ii v1,.l (v2.map aB)]=some (.l ([(⟨v0,v1,v2⟩:Way)].map bp)):=qN (by decide) rfl rfl
theorem amt(v0:Int)(v1:Int)(v2:List Int):Prim.ev (.lit 3 []) [ii v0,ii v1,.l (v2.map aB)]=some (.l ([(⟨v0,v1,v2⟩:Way)].map bp)):=qN (by decide) rfl rfl
theorem amu(x:Way):(⟨x.to,x.cost,x.aP⟩:Way)=x:=rfl
structure azW where
 WS:Bool
 to:Int
 kind:Int
 cost:Int
 eY:Int
 aP:List Int
 deriving Inhabited
structure Self where
 id:Int
 bh:Int
 net:Net
 heard:List Int
 store:List ah
 deriving Inhabited
def iB(x:Self):List T:=[ii x.id,ii x.bh,ii x.net.n,.l (x.net.aE.map dB),.l (x.net.aM.map ed),.l (x.heard.map aB),.l (x.store.map ai)]
theorem amv{l:List Self}{n:Int}(h:0<=n)(h':n<l.length):Prim.ev (.cell 7 0) [.l (l.map iB),ii n]=some (ii (gt l n).id):=iO h (dR h h') rfl rfl
theorem amw{l:List Self}{n:Int}(h:0<=n)(h':n<l.length):Prim.ev (.bq 7 0) [.l (l.map iB),ii n]=some (ii (gt l n).id):=lO h (dR h h') rfl rfl rfl
theorem amx{l:List Self}{n:Int}(h:0<=n)(h':n<l.length):Prim.ev (.cell 7 1) [.l (l.map iB),ii n]=some (ii (gt l n).bh):=iO h (dR h h') rfl rfl
theorem amy{l:List Self}{n:Int}(h:0<=n)(h':n<l.length):Prim.ev (.bq 7 1) [.l (l.map iB),ii n]=some (ii (gt l n).bh):=lO h (dR h h') rfl rfl rfl
theorem amz{l:List Self}{n:Int}(h:0<=n)(h':n<l.length):Prim.ev (.cell 7 2) [.l (l.map iB),ii n]=some (ii (gt l n).net.n):=iO h (dR h h') rfl rfl
theorem amA{l:List Self}{n:Int}(h:0<=n)(h':n<l.length):Prim.ev (.bq 7 2) [.l (l.map iB),ii n]=some (ii (gt l n).net.n):=lO h (dR h h') rfl rfl rfl
theorem amB{l:List Self}{n:Int}(h:0<=n)(h':n<l.length):Prim.ev (.cell 7 3) [.l (l.map iB),ii n]=some (.l ((gt l n).net.aE.map dB)):=iO h (dR h h') rfl rfl
theorem amC{l:List Self}{n:Int}(h:0<=n)(h':n<l.length):Prim.ev (.dE 7 3) [.l (l.map iB),ii n]=some (.l ((gt l n).net.aE.map dB)):=zL h (dR h h') rfl rfl
theorem amD{l:List Self}{n:Int}(h:0<=n)(h':n<l.length):Prim.ev (.cell 7 4) [.l (l.map iB),ii n]=some (.l ((gt l n).net.aM.map ed)):=iO h (dR h h') rfl rfl
theorem amE{l:List Self}{n:Int}(h:0<=n)(h':n<l.length):Prim.ev (.dE 7 4) [.l (l.map iB),ii n]=some (.l ((gt l n).net.aM.map ed)):=zL h (dR h h') rfl rfl
theorem amF{l:List Self}{n:Int}(h:0<=n)(h':n<l.length):Prim.ev (.cell 7 5) [.l (l.map iB),ii n]=some (.l ((gt l n).heard.map aB)):=iO h (dR h h') rfl rfl
theorem amG{l:List Self}{n:Int}(h:0<=n)(h':n<l.length):Prim.ev (.dE 7 5) [.l (l.map iB),ii n]=some (.l ((gt l n).heard.map aB)):=zL h (dR h h') rfl rfl
theorem amH{l:List Self}{n:Int}(h:0<=n)(h':n<l.length):Prim.ev (.cell 7 6) [.l (l.map iB),ii n]=some (.l ((gt l n).store.map ai)):=iO h (dR h h') rfl rfl
theorem amI{l:List Self}{n:Int}(h:0<=n)(h':n<l.length):Prim.ev (.dE 7 6) [.l (l.map iB),ii n]=some (.l ((gt l n).store.map ai)):=zL h (dR h h') rfl rfl
theorem WU{l m:List Self}(h:l.length+m.length<4294967296):Prim.ev (.app false 7) [.l (l.map iB),.l (m.map iB)]=some (.l ((l++m).map iB)):=td (w:=7) (λ_=>rfl) (.inl rfl) h
theorem WV{m:List Self}(h:m.length<4294967296):Prim.ev (.app false 7) [.l [],.l (m.map iB)]=some (.l (m.map iB)):=vk (w:=7) (λ_=>rfl) (.inl rfl) h
theorem amJ{l:List Self}{x:Self}(h:l.length<4294967295):Prim.ev (.app false 7) [.l (l.map iB),.l ([x].map iB)]=some (.l ((l++[x]).map iB)):=WU (by simp;omega)
theorem amK{x:Self}:Prim.ev (.app false 7) [.l [],.l ([x].map iB)]=some (.l ([x].map iB)):=WV (by simp)
theorem amL{l:List Self}{a:Int}(h:0<=a)(h':a<=l.length):Prim.ev (.sub 7 true false) [.l (l.map iB),ii a]=some (.l ((l.drop a.toNat).map iB)):=Cz (enc:=iB) (w:=7) (λ_=>rfl) h h'
theorem amM{l:List Self}{a:Int}(h:0<=a)(h':a<=l.length):Prim.ev (.sub 7 false true) [.l (l.map iB),ii a]=some (.l ((l.take a.toNat).map iB)):=CA (enc:=iB) (w:=7) (λ_=>rfl) h h'
theorem amN(v0:Int)(v1:Int)(v2:Int)(v3:List bO)(v4:List cg)(v5:List Int)(v6:List ah):Prim.ev (.lit 7 [true,true,true,false,false,false,false]) [ii v0,ii v1,ii v2,.l (v3.map dB),.l (v4.map ed),.l (v5.map aB),.l (v6.map ai)]=some (.l ([(⟨v0,v1,⟨v2,v3,v4⟩,v5,v6⟩:Self)].map iB)):=qN (by decide) rfl rfl
theorem amO(v0:Int)(v1:Int)(v2:Int)(v3:List bO)(v4:List cg)(v5:List Int)(v6:List ah):Prim.ev (.lit 7 []) [ii v0,ii v1,ii v2,.l (v3.map dB),.l (v4.map ed),.l (v5.map aB),.l (v6.map ai)]=some (.l ([(⟨v0,v1,⟨v2,v3,v4⟩,v5,v6⟩:Self)].map iB)):=qN (by decide) rfl rfl
theorem amP(x:Self):(⟨x.id,x.bh,⟨x.net.n,x.net.aE,x.net.aM⟩,x.heard,x.store⟩:Self)=x:=rfl
structure dk where
 node:Int
 ae:Int
 left:Int
 both:Bool
 deriving Inhabited
def b8(x:dk):List T:=[ii x.node,ii x.ae,ii x.left,bb x.both]
def lQ:List Ty:=[.i .i64,.i .i64,.i .i64,.b]
def CG(x:dk):Prop:=jD x.node∧jD x.ae∧jD x.left
theorem amQ(r:List T)(h:cW lQ r):∃x,r=b8 x∧CG x:=by
 obtain⟨_,_,rfl,⟨v0,rfl,h0⟩,_,_,rfl,⟨v1,rfl,h1⟩,_,_,rfl,⟨v2,rfl,h2⟩,_,_,rfl,⟨v3,rfl⟩,rfl⟩:=mJ h
 exact⟨⟨v0,v1,v2,v3⟩,rfl,h0,h1,h2⟩
theorem MT(x:dk)(h:CG x):cW lQ (b8 x):=by
 obtain⟨h0,h1,h2⟩:=h
 exact kq ⟨_,_,rfl,⟨_,rfl,h0⟩,_,_,rfl,⟨_,rfl,h1⟩,_,_,rfl,⟨_,rfl,h2⟩,_,_,rfl,⟨_,rfl⟩,rfl⟩
def zQ(x:dk):Nat:=0
theorem MU(x:dk):lN (b8 x)=zQ x:=by
 simp only[b8,zQ,fa,fy,gf,gn,fv,Nat.add_zero,Nat.zero_add]
theorem amR{l:List dk}{n:Int}(h:0<=n)(h':n<l.length):Prim.ev (.cell 4 0) [.l (l.map b8),ii n]=some (ii (gt l n).node):=iO h (dR h h') rfl rfl
theorem amS{l:List dk}{n:Int}(h:0<=n)(h':n<l.length):Prim.ev (.bq 4 0) [.l (l.map b8),ii n]=some (ii (gt l n).node):=lO h (dR h h') rfl rfl rfl
theorem amT{l:List dk}{n:Int}(h:0<=n)(h':n<l.length):Prim.ev (.cell 4 1) [.l (l.map b8),ii n]=some (ii (gt l n).ae):=iO h (dR h h') rfl rfl
theorem amU{l:List dk}{n:Int}(h:0<=n)(h':n<l.length):Prim.ev (.bq 4 1) [.l (l.map b8),ii n]=some (ii (gt l n).ae):=lO h (dR h h') rfl rfl rfl
theorem amV{l:List dk}{n:Int}(h:0<=n)(h':n<l.length):Prim.ev (.cell 4 2) [.l (l.map b8),ii n]=some (ii (gt l n).left):=iO h (dR h h') rfl rfl
theorem amW{l:List dk}{n:Int}(h:0<=n)(h':n<l.length):Prim.ev (.bq 4 2) [.l (l.map b8),ii n]=some (ii (gt l n).left):=lO h (dR h h') rfl rfl rfl
theorem amX{l:List dk}{n:Int}(h:0<=n)(h':n<l.length):Prim.ev (.cell 4 3) [.l (l.map b8),ii n]=some (bb (gt l n).both):=iO h (dR h h') rfl rfl
theorem amY{l:List dk}{n:Int}(h:0<=n)(h':n<l.length):Prim.ev (.bq 4 3) [.l (l.map b8),ii n]=some (bb (gt l n).both):=lO h (dR h h') rfl rfl rfl
theorem WW{l m:List dk}(h:l.length+m.length<4294967296):Prim.ev (.app false 4) [.l (l.map b8),.l (m.map b8)]=some (.l ((l++m).map b8)):=td (w:=4) (λ_=>rfl) (.inl rfl) h
theorem WX{m:List dk}(h:m.length<4294967296):Prim.ev (.app false 4) [.l [],.l (m.map b8)]=some (.l (m.map b8)):=vk (w:=4) (λ_=>rfl) (.inl rfl) h
theorem WY{l m:List dk}(h:l.length+m.length<4294967296):Prim.ev (.app true 4) [.l (l.map b8),.l (m.map b8)]=some (.l ((l++m).map b8)):=td (w:=4) (λ_=>rfl) (.inr λ_=>rfl) h
theorem WZ{m:List dk}(h:m.length<4294967296):Prim.ev (.app true 4) [.l [],.l (m.map b8)]=some (.l (m.map b8)):=vk (w:=4) (λ_=>rfl) (.inr λ_=>rfl) h
theorem amZ{l:List dk}{x:dk}(h:l.length<4294967295):Prim.ev (.app false 4) [.l (l.map b8),.l ([x].map b8)]=some (.l ((l++[x]).map b8)):=WW (by simp;omega)
theorem am0{x:dk}:Prim.ev (.app false 4) [.l [],.l ([x].map b8)]=some (.l ([x].map b8)):=WX (by simp)
theorem am1{l:List dk}{x:dk}(h:l.length<4294967295):Prim.ev (.app true 4) [.l (l.map b8),.l ([x].map b8)]=some (.l ((l++[x]).map b8)):=WY (by simp;omega)
theorem am2{x:dk}:Prim.ev (.app true 4) [.l [],.l ([x].map b8)]=some (.l ([x].map b8)):=WZ (by simp)
theorem am3{l:List dk}{a:Int}(h:0<=a)(h':a<=l.length):Prim.ev (.sub 4 true false) [.l (l.map b8),ii a]=some (.l ((l.drop a.toNat).map b8)):=Cz (enc:=b8) (w:=4) (λ_=>rfl) h h'
theorem am4{l:List dk}{a:Int}(h:0<=a)(h':a<=l.length):Prim.ev (.sub 4 false true) [.l (l.map b8),ii a]=some (.l ((l.take a.toNat).map b8)):=CA (enc:=b8) (w:=4) (λ_=>rfl) h h'
theorem am5(v0:Int)(v1:Int)(v2:Int)(v3:Bool):Prim.ev (.lit 4 [true,true,true,true]) [ii v0,ii v1,ii v2,bb v3]=some (.l ([(⟨v0,v1,v2,v3⟩:dk)].map b8)):=qN (by decide) rfl rfl
theorem am6(v0:Int)(v1:Int)(v2:Int)(v3:Bool):Prim.ev (.lit 4 []) [ii v0,ii v1,ii v2,bb v3]=some (.l ([(⟨v0,v1,v2,v3⟩:dk)].map b8)):=qN (by decide) rfl rfl
theorem am7(x:dk):(⟨x.node,x.ae,x.left,x.both⟩:dk)=x:=rfl
structure Node where
 self:Self
 cU:List dk
 deriving Inhabited
def jk(x:Node):List T:=[ii x.self.id,ii x.self.bh,ii x.self.net.n,.l (x.self.net.aE.map dB),.l (x.self.net.aM.map ed),.l (x.self.heard.map aB),.l (x.self.store.map ai),.l (x.cU.map b8)]
def G8:List Ty:=[.i .i64,.i .i64,.i .i64,.sl rz,.sl rA,.sl iz,.sl iA,.sl lQ]
def vm(x:Node):Prop:=jD x.self.id∧jD x.self.bh∧jD x.self.net.n∧(x.self.net.aE.length<=maxLen∧∀y∈x.self.net.aE,G5 y)∧(x.self.net.aM.length<=maxLen∧∀y∈x.self.net.aM,G6 y)∧(x.self.heard.length<=maxLen∧∀y∈x.self.heard,vl y)∧(x.self.store.length<=maxLen∧∀y∈x.self.store,zO y)∧(x.cU.length<=maxLen∧∀y∈x.cU,CG y)
theorem am8(r:List T)(h:cW G8 r):∃x,r=jk x∧vm x:=by
 obtain⟨_,_,rfl,⟨v0,rfl,h0⟩,_,_,rfl,⟨v1,rfl,h1⟩,_,_,rfl,⟨v2,rfl,h2⟩,t3,_,rfl,q3,t4,_,rfl,q4,t5,_,rfl,q5,t6,_,rfl,q6,t7,_,rfl,q7,rfl⟩:=mJ h
 unfold WT at q3
 obtain⟨z3,rfl,m3,g3⟩:=q3
 obtain⟨v3,rfl,h3⟩:=G0 ala g3
 rw[List.length_map]at m3
 unfold WT at q4
 obtain⟨z4,rfl,m4,g4⟩:=q4
 obtain⟨v4,rfl,h4⟩:=G0 alt g4
 rw[List.length_map]at m4
 unfold WT at q5
 obtain⟨z5,rfl,m5,g5⟩:=q5
 obtain⟨v5,rfl,h5⟩:=G0 Wp g5
 rw[List.length_map]at m5
 unfold WT at q6
 obtain⟨z6,rfl,m6,g6⟩:=q6
 obtain⟨v6,rfl,h6⟩:=G0 WN g6
 rw[List.length_map]at m6
 unfold WT at q7
 obtain⟨z7,rfl,m7,g7⟩:=q7
 obtain⟨v7,rfl,h7⟩:=G0 amQ g7
 rw[List.length_map]at m7
 exact⟨⟨⟨v0,v1,⟨v2,v3,v4⟩,v5,v6⟩,v7⟩,rfl,h0,h1,h2,⟨m3,h3⟩,⟨m4,h4⟩,⟨m5,h5⟩,⟨m6,h6⟩,⟨m7,h7⟩⟩
theorem am9(x:Node)(h:vm x):cW G8 (jk x):=by
 obtain⟨h0,h1,h2,h3,h4,h5,h6,h7⟩:=h
 exact kq ⟨_,_,rfl,⟨_,rfl,h0⟩,_,_,rfl,⟨_,rfl,h1⟩,_,_,rfl,⟨_,rfl,h2⟩,_,_,rfl,tb (by rw[List.length_map];exact h3.1) (rR MN h3.2),_,_,rfl,tb (by rw[List.length_map];exact h4.1) (rR MP h4.2),_,_,rfl,tb (by rw[List.length_map];exact h5.1) (rR CB h5.2),_,_,rfl,tb (by rw[List.length_map];exact h6.1) (rR CE h6.2),_,_,rfl,tb (by rw[List.length_map];exact h7.1) (rR MT h7.2),rfl⟩
def AD(x:Node):Nat:=fb zM x.self.net.aE+fb zN x.self.net.aM+fb tg x.self.heard+fb zP x.self.store+fb zQ x.cU
theorem yd(x:Node):lN (jk x)=AD x:=by
 simp only[jk,AD,fa,fy,gf,gn,fv,Nat.add_zero,Nat.zero_add,rS MU,rS CC,rS MO,rS CF,rS MQ]
 try omega
theorem am_{l:List Node}{n:Int}(h:0<=n)(h':n<l.length):Prim.ev (.cell 8 0) [.l (l.map jk),ii n]=some (ii (gt l n).self.id):=iO h (dR h h') rfl rfl
theorem am'{l:List Node}{n:Int}(h:0<=n)(h':n<l.length):Prim.ev (.bq 8 0) [.l (l.map jk),ii n]=some (ii (gt l n).self.id):=lO h (dR h h') rfl rfl rfl
theorem ana{l:List Node}{n:Int}(h:0<=n)(h':n<l.length):Prim.ev (.cell 8 1) [.l (l.map jk),ii n]=some (ii (gt l n).self.bh):=iO h (dR h h') rfl rfl
theorem anb{l:List Node}{n:Int}(h:0<=n)(h':n<l.length):Prim.ev (.bq 8 1) [.l (l.map jk),ii n]=some (ii (gt l n).self.bh):=lO h (dR h h') rfl rfl rfl
theorem anc{l:List Node}{n:Int}(h:0<=n)(h':n<l.length):Prim.ev (.cell 8 2) [.l (l.map jk),ii n]=some (ii (gt l n).self.net.n):=iO h (dR h h') rfl rfl
theorem ane{l:List Node}{n:Int}(h:0<=n)(h':n<l.length):Prim.ev (.bq 8 2) [.l (l.map jk),ii n]=some (ii (gt l n).self.net.n):=lO h (dR h h') rfl rfl rfl
theorem anf{l:List Node}{n:Int}(h:0<=n)(h':n<l.length):Prim.ev (.cell 8 3) [.l (l.map jk),ii n]=some (.l ((gt l n).self.net.aE.map dB)):=iO h (dR h h') rfl rfl
theorem ang{l:List Node}{n:Int}(h:0<=n)(h':n<l.length):Prim.ev (.dE 8 3) [.l (l.map jk),ii n]=some (.l ((gt l n).self.net.aE.map dB)):=zL h (dR h h') rfl rfl
theorem anh{l:List Node}{n:Int}(h:0<=n)(h':n<l.length):Prim.ev (.cell 8 4) [.l (l.map jk),ii n]=some (.l ((gt l n).self.net.aM.map ed)):=iO h (dR h h') rfl rfl
theorem ani{l:List Node}{n:Int}(h:0<=n)(h':n<l.length):Prim.ev (.dE 8 4) [.l (l.map jk),ii n]=some (.l ((gt l n).self.net.aM.map ed)):=zL h (dR h h') rfl rfl
theorem anj{l:List Node}{n:Int}(h:0<=n)(h':n<l.length):Prim.ev (.cell 8 5) [.l (l.map jk),ii n]=some (.l ((gt l n).self.heard.map aB)):=iO h (dR h h') rfl rfl
theorem ank{l:List Node}{n:Int}(h:0<=n)(h':n<l.length):Prim.ev (.dE 8 5) [.l (l.map jk),ii n]=some (.l ((gt l n).self.heard.map aB)):=zL h (dR h h') rfl rfl
theorem anl{l:List Node}{n:Int}(h:0<=n)(h':n<l.length):Prim.ev (.cell 8 6) [.l (l.map jk),ii n]=some (.l ((gt l n).self.store.map ai)):=iO h (dR h h') rfl rfl
theorem anm{l:List Node}{n:Int}(h:0<=n)(h':n<l.length):Prim.ev (.dE 8 6) [.l (l.map jk),ii n]=some (.l ((gt l n).self.store.map ai)):=zL h (dR h h') rfl rfl
theorem ann{l:List Node}{n:Int}(h:0<=n)(h':n<l.length):Prim.ev (.cell 8 7) [.l (l.map jk),ii n]=some (.l ((gt l n).cU.map b8)):=iO h (dR h h') rfl rfl
theorem ano{l:List Node}{n:Int}(h:0<=n)(h':n<l.length):Prim.ev (.dE 8 7) [.l (l.map jk),ii n]=some (.l ((gt l n).cU.map b8)):=zL h (dR h h') rfl rfl
theorem W3{l m:List Node}(h:l.length+m.length<4294967296):Prim.ev (.app false 8) [.l (l.map jk),.l (m.map jk)]=some (.l ((l++m).map jk)):=td (w:=8) (λ_=>rfl) (.inl rfl) h
theorem W4{m:List Node}(h:m.length<4294967296):Prim.ev (.app false 8) [.l [],.l (m.map jk)]=some (.l (m.map jk)):=vk (w:=8) (λ_=>rfl) (.inl rfl) h
theorem anp{l:List Node}{x:Node}(h:l.length<4294967295):Prim.ev (.app false 8) [.l (l.map jk),.l ([x].map jk)]=some (.l ((l++[x]).map jk)):=W3 (by simp;omega)
theorem anq{x:Node}:Prim.ev (.app false 8) [.l [],.l ([x].map jk)]=some (.l ([x].map jk)):=W4 (by simp)
theorem anr{l:List Node}{a:Int}(h:0<=a)(h':a<=l.length):Prim.ev (.sub 8 true false) [.l (l.map jk),ii a]=some (.l ((l.drop a.toNat).map jk)):=Cz (enc:=jk) (w:=8) (λ_=>rfl) h h'
theorem ans{l:List Node}{a:Int}(h:0<=a)(h':a<=l.length):Prim.ev (.sub 8 false true) [.l (l.map jk),ii a]=some (.l ((l.take a.toNat).map jk)):=CA (enc:=jk) (w:=8) (λ_=>rfl) h h'
theorem ant(v0:Int)(v1:Int)(v2:Int)(v3:List bO)(v4:List cg)(v5:List Int)(v6:List ah)(v7:List dk):Prim.ev (.lit 8 [true,true,true,false,false,false,false,false]) [ii v0,ii v1,ii v2,.l (v3.map dB),.l (v4.map ed),.l (v5.map aB),.l (v6.map ai),.l (v7.map b8)]=some (.l ([(⟨⟨v0,v1,⟨v2,v3,v4⟩,v5,v6⟩,v7⟩:Node)].map jk)):=qN (by decide) rfl rfl
theorem anu(v0:Int)(v1:Int)(v2:Int)(v3:List bO)(v4:List cg)(v5:List Int)(v6:List ah)(v7:List dk):Prim.ev (.lit 8 []) [ii v0,ii v1,ii v2,.l (v3.map dB),.l (v4.map ed),.l (v5.map aB),.l (v6.map ai),.l (v7.map b8)]=some (.l ([(⟨⟨v0,v1,⟨v2,v3,v4⟩,v5,v6⟩,v7⟩:Node)].map jk)):=qN (by decide) rfl rfl
theorem anv(x:Node):(⟨⟨x.self.id,x.self.bh,⟨x.self.net.n,x.self.net.aE,x.self.net.aM⟩,x.self.heard,x.self.store⟩,x.cU⟩:Node)=x:=rfl
structure aW where
 kind:Int
 gp:Int
 to:Int
 ae:Int
 heard:List Int
 list:List ah
 deriving Inhabited
def eD(x:aW):List T:=[ii x.kind,ii x.gp,ii x.to,ii x.ae,.l (x.heard.map aB),.l (x.list.map ai)]
def G9:List Ty:=[.i .i64,.i .i64,.i .i64,.i .i64,.sl iz,.sl iA]
def MV(x:aW):Prop:=jD x.kind∧jD x.gp∧jD x.to∧jD x.ae∧(x.heard.length<=maxLen∧∀y∈x.heard,vl y)∧(x.list.length<=maxLen∧∀y∈x.list,zO y)
theorem anw(r:List T)(h:cW G9 r):∃x,r=eD x∧MV x:=by
 obtain⟨_,_,rfl,⟨v0,rfl,h0⟩,_,_,rfl,⟨v1,rfl,h1⟩,_,_,rfl,⟨v2,rfl,h2⟩,_,_,rfl,⟨v3,rfl,h3⟩,t4,_,rfl,q4,t5,_,rfl,q5,rfl⟩:=mJ h
 unfold WT at q4
 obtain⟨z4,rfl,m4,g4⟩:=q4
 obtain⟨v4,rfl,h4⟩:=G0 Wp g4
 rw[List.length_map]at m4
 unfold WT at q5
 obtain⟨z5,rfl,m5,g5⟩:=q5
 obtain⟨v5,rfl,h5⟩:=G0 WN g5
 rw[List.length_map]at m5
 exact⟨⟨v0,v1,v2,v3,v4,v5⟩,rfl,h0,h1,h2,h3,⟨m4,h4⟩,⟨m5,h5⟩⟩
theorem anx(x:aW)(h:MV x):cW G9 (eD x):=by
 obtain⟨h0,h1,h2,h3,h4,h5⟩:=h
 exact kq ⟨_,_,rfl,⟨_,rfl,h0⟩,_,_,rfl,⟨_,rfl,h1⟩,_,_,rfl,⟨_,rfl,h2⟩,_,_,rfl,⟨_,rfl,h3⟩,_,_,rfl,tb (by rw[List.length_map];exact h4.1) (rR CB h4.2),_,_,rfl,tb (by rw[List.length_map];exact h5.1) (rR CE h5.2),rfl⟩
def CH(x:aW):Nat:=fb tg x.heard+fb zP x.list
theorem G_(x:aW):lN (eD x)=CH x:=by
 simp only[eD,CH,fa,fy,gf,gn,fv,Nat.add_zero,Nat.zero_add,rS CC,rS CF]
 try omega
theorem anz{l:List aW}{n:Int}(h:0<=n)(h':n<l.length):Prim.ev (.cell 6 0) [.l (l.map eD),ii n]=some (ii (gt l n).kind):=iO h (dR h h') rfl rfl
theorem anA{l:List aW}{n:Int}(h:0<=n)(h':n<l.length):Prim.ev (.bq 6 0) [.l (l.map eD),ii n]=some (ii (gt l n).kind):=lO h (dR h h') rfl rfl rfl
theorem anB{l:List aW}{n:Int}(h:0<=n)(h':n<l.length):Prim.ev (.cell 6 1) [.l (l.map eD),ii n]=some (ii (gt l n).gp):=iO h (dR h h') rfl rfl
theorem anC{l:List aW}{n:Int}(h:0<=n)(h':n<l.length):Prim.ev (.bq 6 1) [.l (l.map eD),ii n]=some (ii (gt l n).gp):=lO h (dR h h') rfl rfl rfl
theorem anD{l:List aW}{n:Int}(h:0<=n)(h':n<l.length):Prim.ev (.cell 6 2) [.l (l.map eD),ii n]=some (ii (gt l n).to):=iO h (dR h h') rfl rfl
theorem anE{l:List aW}{n:Int}(h:0<=n)(h':n<l.length):Prim.ev (.bq 6 2) [.l (l.map eD),ii n]=some (ii (gt l n).to):=lO h (dR h h') rfl rfl rfl
theorem anF{l:List aW}{n:Int}(h:0<=n)(h':n<l.length):Prim.ev (.cell 6 3) [.l (l.map eD),ii n]=some (ii (gt l n).ae):=iO h (dR h h') rfl rfl
theorem anG{l:List aW}{n:Int}(h:0<=n)(h':n<l.length):Prim.ev (.bq 6 3) [.l (l.map eD),ii n]=some (ii (gt l n).ae):=lO h (dR h h') rfl rfl rfl
theorem anH{l:List aW}{n:Int}(h:0<=n)(h':n<l.length):Prim.ev (.cell 6 4) [.l (l.map eD),ii n]=some (.l ((gt l n).heard.map aB)):=iO h (dR h h') rfl rfl
theorem anI{l:List aW}{n:Int}(h:0<=n)(h':n<l.length):Prim.ev (.dE 6 4) [.l (l.map eD),ii n]=some (.l ((gt l n).heard.map aB)):=zL h (dR h h') rfl rfl
theorem anJ{l:List aW}{n:Int}(h:0<=n)(h':n<l.length):Prim.ev (.cell 6 5) [.l (l.map eD),ii n]=some (.l ((gt l n).list.map ai)):=iO h (dR h h') rfl rfl
theorem anK{l:List aW}{n:Int}(h:0<=n)(h':n<l.length):Prim.ev (.dE 6 5) [.l (l.map eD),ii n]=some (.l ((gt l n).list.map ai)):=zL h (dR h h') rfl rfl
theorem kM_{l m:List aW}(h:l.length+m.length<4294967296):Prim.ev (.app false 6) [.l (l.map eD),.l (m.map eD)]=some (.l ((l++m).map eD)):=td (w:=6) (λ_=>rfl) (.inl rfl) h
theorem W5{m:List aW}(h:m.length<4294967296):Prim.ev (.app false 6) [.l [],.l (m.map eD)]=some (.l (m.map eD)):=vk (w:=6) (λ_=>rfl) (.inl rfl) h
theorem anM{l:List aW}{x:aW}(h:l.length<4294967295):Prim.ev (.app false 6) [.l (l.map eD),.l ([x].map eD)]=some (.l ((l++[x]).map eD)):=kM_ (by simp;omega)
theorem anN{x:aW}:Prim.ev (.app false 6) [.l [],.l ([x].map eD)]=some (.l ([x].map eD)):=W5 (by simp)
theorem anO{l:List aW}{a:Int}(h:0<=a)(h':a<=l.length):Prim.ev (.sub 6 true false) [.l (l.map eD),ii a]=some (.l ((l.drop a.toNat).map eD)):=Cz (enc:=eD) (w:=6) (λ_=>rfl) h h'
theorem anP{l:List aW}{a:Int}(h:0<=a)(h':a<=l.length):Prim.ev (.sub 6 false true) [.l (l.map eD),ii a]=some (.l ((l.take a.toNat).map eD)):=CA (enc:=eD) (w:=6) (λ_=>rfl) h h'
theorem MW(v0:Int)(v1:Int)(v2:Int)(v3:Int)(v4:List Int)(v5:List ah):Prim.ev (.lit 6 [true,true,true,true,false,false]) [ii v0,ii v1,ii v2,ii v3,.l (v4.map aB),.l (v5.map ai)]=some (.l ([(⟨v0,v1,v2,v3,v4,v5⟩:aW)].map eD)):=qN (by decide) rfl rfl
theorem anQ(v0:Int)(v1:Int)(v2:Int)(v3:Int)(v4:List Int)(v5:List ah):Prim.ev (.lit 6 []) [ii v0,ii v1,ii v2,ii v3,.l (v4.map aB),.l (v5.map ai)]=some (.l ([(⟨v0,v1,v2,v3,v4,v5⟩:aW)].map eD)):=qN (by decide) rfl rfl
theorem anR(x:aW):(⟨x.kind,x.gp,x.to,x.ae,x.heard,x.list⟩:aW)=x:=rfl
structure anS where
 WS:Bool
 to:Int
 aP:List Int
 deriving Inhabited
structure aBw where
 gone:Bool
 line:anS
 deriving Inhabited
structure World where
 net:Net
 aE:List Bool
 up:List Bool
 azX:List Int
 nodes:List Node
 anT:List aW
 told:List ah
 errors:Int
 deriving Inhabited
set_option linter.unusedSimpArgs false
set_option linter.defProp false
theorem pz:(∀p:Prop,(p∨p)=p)∧(∀p:Prop,(p∨True)=True)∧(∀p:Prop,(True∨p)=True)∧(∀p:Prop,(p∨False)=p)∧(∀p:Prop,(False∨p)=p)∧(¬True)=False∧(¬False)=True∧(∀a:Int,(a<a)=False):=
 ⟨or_self,or_true,true_or,or_false,false_or,not_true_eq_false,not_false_eq_true,λa=>eq_false (Int.lt_irrefl a)⟩
@[congr] theorem aBx {α β:Type} {F:(α->Option β)->α->Option β} {R:Nat} {x y:α} (h:x=y):iter F R x=iter F R y:=by rw[h]
@[congr] theorem aBy {α β:Type} {o o':Option α} {f:α->Option β} (h:o=o'):o.bind f=o'.bind f:=by rw[h]
@[congr] theorem aBz {t t':T} {x y:Option (List T)} (h:t=t'):az t x y=az t' x y:=by rw[h]
@[congr] theorem aBA {k:af} {b:af->Option (List T)}:jn k b=jn k b:=rfl
@[congr] theorem aBB {o o':Option (List T)} {k:T->Option (List T)} (h:o=o'):aZ o k=aZ o' k:=by rw[h]
@[congr] theorem aBC {k:T->Option (List T)} {l l':List T} (h:l=l'):ej k l=ej k l':=by rw[h]
@[congr] theorem aBD {o o':Option (List T)} {k:T->T->Option (List T)} (h:o=o'):RS o k=RS o' k:=by rw[h]
@[congr] theorem aBE {k:T->T->Option (List T)} {l l':List T} (h:l=l'):dQ k l=dQ k l':=by rw[h]
@[congr] theorem aBF {o o':Option (List T)} {k:T->T->T->Option (List T)} (h:o=o'):mS o k=mS o' k:=by rw[h]
@[congr] theorem aBG {k:T->T->T->Option (List T)} {l l':List T} (h:l=l'):tc k l=tc k l':=by rw[h]
@[congr] theorem aBH {o o':Option (List T)} {k:T->T->T->T->Option (List T)} (h:o=o'):vj o k=vj o' k:=by rw[h]
@[congr] theorem aBI {k:T->T->T->T->Option (List T)} {l l':List T} (h:l=l'):J1 k l=J1 k l':=by rw[h]
@[congr] theorem aBJ {k:T->T->T->T->T->Option (List T)} {l l':List T} (h:l=l'):RT k l=RT k l':=by rw[h]
@[congr] theorem aBK {o o':Option (List T)} {k:T->T->T->T->T->T->Option (List T)} (h:o=o'):cl6 o k=cl6 o' k:=by rw[h]
@[congr] theorem aBL {o o':Option (List T)} {k:T->T->T->T->T->T->T->Option (List T)} (h:o=o'):AC o k=AC o' k:=by rw[h]
@[congr] theorem aBM {o o':Option (List T)} {k:T->T->T->T->T->T->T->T->Option (List T)} (h:o=o'):ku o k=ku o' k:=by rw[h]
@[congr] theorem aBN {o o':Option (List T)} {k:T->T->T->T->T->T->T->T->T->Option (List T)} (h:o=o'):ML o k=ML o' k:=by rw[h]
theorem W6(b:Bool)(x y:Option (List T)):az (bb b) x y=if b=true then x else y:=by cases b<;>rfl
theorem anU:Prim.ev .len [.l []]=some (ii 0):=rfl
theorem anV(a b:Int)(h:b≠0):Prim.ev (.bin .rem) [ii a,ii b]=some (ii (a.tmod b)):=by
 simp only[Prim.ev,T.val,mu,Option.bind_some,if_true,h,if_false]
theorem anW(a b:Int):Prim.ev .mx [ii a,ii b]=some (ii (if b>a then b else a)):=rfl
theorem anX(a b:Int):Prim.ev .mn [ii a,ii b]=some (ii (if b<a then b else a)):=rfl
theorem anY(a b c d a' b' c' d':Int):Prim.ev (.uw [1,1,1,1]) [ii a,ii b,ii c,ii d,ii a',ii b',ii c',ii d']=some (bb (a==a'&&(b==b'&&(c==c'&&(d==d'))))):=by
 simp[Prim.ev,xH,Ro]
theorem anZ(a b c a' b' c':Int)(d d':Bool):Prim.ev (.uw [1,1,1,4]) [ii a,ii b,ii c,bb d,ii a',ii b',ii c',bb d']=some (bb (a==a'&&(b==b'&&(c==c'&&(d==d'))))):=by
 simp[Prim.ev,xH,Ro]
theorem an0{w:Nat}(h:0<w):Prim.ev (.lit w []) []=some (.l []):=by
 simp[Prim.ev,r9,rl,h]
theorem an1(a b:Int):Prim.ev (.lit 1 [true,true]) [ii a,ii b]=some (.l ([a,b].map aB)):=by simp[Prim.ev,r9,rl,eQ,aB]
theorem an2(a b:Int):Prim.ev (.lit 1 []) [ii a,ii b]=some (.l ([a,b].map aB)):=by simp[Prim.ev,r9,rl,aB]
theorem an3{l:List Int}{x y:Int}(h:l.length<4294967294):Prim.ev (.app true 1) [.l (l.map aB),.l ([x,y].map aB)]=some (.l ((l++[x,y]).map aB)):=CD (by simp;omega)
theorem an4(a b:Int):((a==b)=true)=(a=b):=by simp
theorem an5(a b:Int):((a !=b)=true)=¬(a=b):=by simp
theorem an6(b:Bool):((!b)=true)=¬(b=true):=by simp
theorem an7(a b:Bool):((a !=b)=true)=¬((a=true)=(b=true)):=by cases a<;>cases b<;>simp
theorem an8(a b:Bool):((a==b)=true)=((a=true)=(b=true)):=by cases a<;>cases b<;>simp
theorem CI(a b:Nat):((a+b:Nat):Int)=(a:Int)+b:=by simp
theorem CJ:((1:Nat):Int)=1:=rfl
theorem an9:((2:Nat):Int)=2:=rfl
theorem an_:((3:Nat):Int)=3:=rfl
theorem an':((5:Nat):Int)=5:=rfl
theorem aoa:((6:Nat):Int)=6:=rfl
theorem aob:((7:Nat):Int)=7:=rfl
theorem aoc:((9:Nat):Int)=9:=rfl
theorem MX:((0:Nat):Int)=0:=rfl
theorem zR{α:Type}{p q:Prop} [Decidable p] [Decidable q](h:p↔q)(x y:α):(if p then x else y)=if q then x else y:=by
 by_cases hq:q
 ·rw[if_pos (h.2 hq),if_pos hq]
 ·rw[if_neg (λhp=>hq (h.1 hp)),if_neg hq]
def kC(n:Nat)(p:Nat->Bool):Bool:=(List.range n).all p
theorem bY{n:Nat}{p:Nat->Bool}:kC n p=true↔∀i,i<n->p i=true:=by
 simp[kC]
theorem CK{β σ:Type}{F:(σ->Option β)->σ->Option β}(n:Nat)(st:Nat->σ)(p:Nat->Bool){gW fE:Option β}
  (step:∀i:Nat,(i:Int)<(n:Int)->∀s,F s (st i)=if p i=true then s (st (i+1))else fE)(fin:∀s,F s (st n)=gW){R:Nat}(hR:n<R):
  iter F R (st 0)=if kC n p=true then gW else fE:=by
 classical
 have:∀(d i:Nat),i+d=n->∀R,d<R->iter F R (st i)=if(∀j,i<=j->j<n->p j=true)then gW else fE:=by
  intro d
  induction d with
  |zero=>
   intro i hi R hR
   cases R with
   |zero=>omega
   |succ R=>
    have hi:i=n:=hi
    subst hi
    rw[if_pos (λj h1 h2=>absurd h1 (by omega))]
    exact fin _
  |succ d ih=>
   intro i hi R hR
   cases R with
   |zero=>omega
   |succ R=>
    unfold iter
    rw[step i (by omega)]
    by_cases hp:p i=true
    ·rw[if_pos hp,ih (i+1) (by omega) R (by omega)]
     refine zR ⟨λh j h1 h2=>?_,λh j h1 h2=>h j (by omega) h2⟩ _ _
     rcases Nat.lt_or_ge i j with h3|h3
     ·exact h j h3 h2
     ·have:j=i:=by omega
      subst this;exact hp
    ·rw[if_neg hp,if_neg λh=>hp (h i (Nat.le_refl i) (by omega))]
 rw[this n 0 (by omega) R hR]
 exact zR ⟨λh=>bY.2 λi hi=>h i (Nat.zero_le i) hi,λh j _ h2=>bY.1 h j h2⟩ _ _
def eV{α:Type}(p:α->Bool)(l:List α):Int:=match l.findIdx? p with|some i=>(i:Int)|none=>-1
theorem sm{α:Type}(p:α->Bool)(l:List α):eV p l<l.length:=by
 unfold eV
 cases h:l.findIdx? p with
 |none=>show(-1:Int)<_;omega
 |some i=>
  obtain⟨h1,_⟩:=List.findIdx?_eq_some_iff_getElem.1 h
  show(i:Int)<_;omega
theorem MY{α:Type}(p:α->Bool)(l:List α):-1<=eV p l:=by
 unfold eV
 cases h:l.findIdx? p with
 |none=>show(-1:Int)<=-1;omega
 |some i=>show(-1:Int)<=(i:Int);omega
theorem ue{α:Type} [Inhabited α](p:α->Bool)(l:List α)(h:0<=eV p l):p (gt l (eV p l))=true:=by
 unfold eV at h⊢
 cases h':l.findIdx? p with
 |none=>rw[h']at h;exact absurd h (by decide)
 |some i=>
  obtain⟨h1,h2,_⟩:=List.findIdx?_eq_some_iff_getElem.1 h'
  show p (gt l (i:Int))=true
  rw[eC h1];exact h2
theorem EP{α:Type}(p:α->Bool)(l:List α):eV p l<0↔∀x∈l,p x=false:=by
 unfold eV
 cases h:l.findIdx? p with
 |none=>
  rw[List.findIdx?_eq_none_iff]at h
  exact⟨λ_=>h,λ_=>by show(-1:Int)<0;decide⟩
 |some i=>
  obtain⟨h1,h2,_⟩:=List.findIdx?_eq_some_iff_getElem.1 h
  refine⟨λh3=>absurd (show(i:Int)<0 from h3) (by omega),λh3=>?_⟩
  rw[h3 _ (List.getElem_mem h1)]at h2
  cases h2
theorem MZ{α β σ:Type} [Inhabited α]{F:(σ->Option β)->σ->Option β}(l:List α)(st:Nat->σ)(p:α->Bool)(tl:Int->Option β){kE:Option β}
  (step:∀i:Nat,(i:Int)<(l.length:Int)->∀s,F s (st i)=if p (gt l i)=true then tl i else s (st (i+1)))(fin:∀s,F s (st l.length)=kE){R:Nat}(hR:l.length<R):
  iter F R (st 0)=if eV p l<0 then kE else tl (eV p l):=by
 have:∀(d i:Nat),i+d=l.length->∀R,d<R->iter F R (st i)=(match(l.drop i).findIdx? p with|some k=>tl ((i+k:Nat):Int)|none=>kE):=by
  intro d
  induction d with
  |zero=>
   intro i hi R hR
   cases R with
   |zero=>omega
   |succ R=>
    rw[Nat.add_zero]at hi
    subst hi
    rw[List.drop_length]
    exact fin _
  |succ d ih=>
   intro i hi R hR
   cases R with
   |zero=>omega
   |succ R=>
    have bf:i<l.length:=by omega
    unfold iter
    rw[step i (by omega),List.drop_eq_getElem_cons bf,List.findIdx?_cons,eC bf]
    cases hp:p l[i]with
    |true=>simp
    |false=>
     simp only[dh,if_false]
     rw[ih (i+1) (by omega) R (by omega)]
     cases(l.drop (i+1)).findIdx? p with
     |none=>rfl
     |some k=>simp[Int.add_assoc,Int.add_comm 1]
 have h:=this l.length 0 (by omega) R hR
 rw[h,List.drop_zero]
 unfold eV
 cases l.findIdx? p with
 |none=>rfl
 |some i=>
  show tl ((0+i:Nat):Int)=if(i:Int)<0 then kE else tl (i:Int)
  rw[if_neg (by omega),Nat.zero_add]
theorem W7{α γ β σ:Type} [Inhabited α]{F:(σ->Option β)->σ->Option β}(l:List α)(st:Nat->γ->σ)(g:γ->α->γ)(out:γ->Option β)(c:γ)(Inv:Nat->γ->Prop)(h0:Inv 0 c)
  (step:∀(i:Nat) c,(i:Int)<(l.length:Int)->Inv i c->Inv (i+1) (g c (gt l i))∧∀s,F s (st i c)=s (st (i+1) (g c (gt l i))))(fin:∀c s,Inv l.length c->F s (st l.length c)=out c){R:Nat}(hR:l.length<R):
  iter F R (st 0 c)=out (l.foldl g c):=by
 have:∀(d i:Nat) (c:γ),i+d=l.length->Inv i c->∀R,d<R->iter F R (st i c)=out ((l.drop i).foldl g c):=by
  intro d
  induction d with
  |zero=>
   intro i c hi hc R hR
   cases R with
   |zero=>omega
   |succ R=>
    rw[Nat.add_zero]at hi
    subst hi
    rw[List.drop_length]
    exact fin _ _ hc
  |succ d ih=>
   intro i c hi hc R hR
   cases R with
   |zero=>omega
   |succ R=>
    have bf:i<l.length:=by omega
    unfold iter
    obtain⟨h1,h2⟩:=step i c (by omega) hc
    rw[h2,List.drop_eq_getElem_cons bf,List.foldl_cons,ih (i+1) _ (by omega) h1 R (by omega),eC bf]
 have h:=this l.length 0 c (by omega) h0 R hR
 simpa using h
theorem aod{γ β σ:Type}{F:(σ->Option β)->σ->Option β}(n:Nat)(st:Nat->γ->σ)(g:γ->Nat->γ)(out:γ->Option β)(c:γ)(Inv:Nat->γ->Prop)(h0:Inv 0 c)
  (step:∀(i:Nat) c,(i:Int)<(n:Int)->Inv i c->Inv (i+1) (g c i)∧∀s,F s (st i c)=s (st (i+1) (g c i)))(fin:∀c s,Inv n c->F s (st n c)=out c){R:Nat}(hR:n<R):
  iter F R (st 0 c)=out ((List.range n).foldl g c):=by
 have hl:(List.range n).length=n:=List.length_range
 refine W7 (List.range n) st g out c Inv h0 (λi c hi hc=>?_) (λc s hc=>?_) (by rw[hl];exact hR)
 ·rw[hl]at hi
  rw[eC (by rw[hl];omega),List.getElem_range]
  exact step i c hi hc
 ·rw[hl]at hc⊢
  exact fin c s hc
theorem M0{α β:Type}(p:α->Bool)(f:α->β)(l:List α)(acc:List β):l.foldl (λc a=>if p a=true then c++[f a]else c) acc=acc++(l.filter p).map f:=by
 induction l generalizing acc with
 |nil=>simp
 |cons a l ih=>
  rw[List.foldl_cons,ih]
  cases h:p a<;>simp[h,List.filter_cons]
theorem foldl_map{α β:Type}(f:α->β)(l:List α)(acc:List β):l.foldl (λc a=>c++[f a]) acc=acc++l.map f:=by
 induction l generalizing acc with
 |nil=>simp
 |cons a l ih=>rw[List.foldl_cons,ih];simp
theorem uf{β σ:Type}{F:(σ->Option β)->σ->Option β}{R:Nat}{x:σ}(n:Nat)(st:Nat->σ)(p:Nat->Bool){gW fE:Option β}(hx:x=st 0)(hR:n<R)
  (step:∀i:Nat,(i:Int)<(n:Int)->∀s,F s (st i)=if p i=true then s (st (i+1))else fE)(fin:∀s,F s (st n)=gW):
  iter F R x=if kC n p=true then gW else fE:=by rw[hx];exact CK n st p step fin hR
theorem EQ{α β σ:Type} [Inhabited α]{F:(σ->Option β)->σ->Option β}{R:Nat}{x:σ}(l:List α)(st:Nat->σ)(p:α->Bool)(tl:Int->Option β){kE:Option β}(hx:x=st 0)(hR:l.length<R)
  (step:∀i:Nat,(i:Int)<(l.length:Int)->∀s,F s (st i)=if p (gt l i)=true then tl i else s (st (i+1)))(fin:∀s,F s (st l.length)=kE):
  iter F R x=if eV p l<0 then kE else tl (eV p l):=by rw[hx];exact MZ l st p tl step fin hR
theorem iP{α γ β σ:Type} [Inhabited α]{F:(σ->Option β)->σ->Option β}{R:Nat}{x:σ}(l:List α)(st:Nat->γ->σ)(g:γ->α->γ)(out:γ->Option β)(c:γ)(Inv:Nat->γ->Prop)(hx:x=st 0 c)(hR:l.length<R)(h0:Inv 0 c)
  (step:∀(i:Nat) c,(i:Int)<(l.length:Int)->Inv i c->Inv (i+1) (g c (gt l i))∧∀s,F s (st i c)=s (st (i+1) (g c (gt l i))))(fin:∀c s,Inv l.length c->F s (st l.length c)=out c):
  iter F R x=out (l.foldl g c):=by rw[hx];exact W7 l st g out c Inv h0 step fin hR
theorem sn{γ β σ:Type}{F:(σ->Option β)->σ->Option β}{R:Nat}{x:σ}(n:Nat)(st:Nat->γ->σ)(g:γ->Nat->γ)(out:γ->Option β)(c:γ)(Inv:Nat->γ->Prop)(hx:x=st 0 c)(hR:n<R)(h0:Inv 0 c)
  (step:∀(i:Nat) c,(i:Int)<(n:Int)->Inv i c->Inv (i+1) (g c i)∧∀s,F s (st i c)=s (st (i+1) (g c i)))(fin:∀c s,Inv n c->F s (st n c)=out c):
  iter F R x=out ((List.range n).foldl g c):=by rw[hx];exact aod n st g out c Inv h0 step fin hR
theorem J6{α γ:Type} [Inhabited α]{l:List α}{g:γ->α->γ}{c:γ}{Inv:Nat->γ->Prop}(h0:Inv 0 c)(step:∀(i:Nat) c,(i:Int)<(l.length:Int)->Inv i c->Inv (i+1) (g c (gt l i))):Inv l.length (l.foldl g c):=by
 have:∀(d i:Nat) (c:γ),i+d=l.length->Inv i c->Inv l.length ((l.drop i).foldl g c):=by
  intro d
  induction d with
  |zero=>intro i c hi hc;rw[Nat.add_zero]at hi;subst hi;rw[List.drop_length];exact hc
  |succ d ih=>
   intro i c hi hc
   have bf:i<l.length:=by omega
   rw[List.drop_eq_getElem_cons bf,List.foldl_cons]
   have:=step i c (by omega) hc
   rw[eC bf]at this
   exact ih (i+1) _ (by omega) this
 have h:=this l.length 0 c (by omega) h0
 simpa using h
theorem W8(n:Nat):(n:Int).tmod 2=((n%2:Nat):Int):=rfl
theorem dG{n:Nat}(h:n<=1048576):n<rounds:=by unfold rounds;omega
def Ha{γ:Type}(ok:Nat->γ->Bool)(g:γ->Nat->γ)(n:Nat)(c:γ):Option γ:=(List.range n).foldl (λo i=>o.bind λc=>if ok i c=true then some (g c i)else none) (some c)
theorem W9{γ:Type}(ok:Nat->γ->Bool)(g:γ->Nat->γ)(l:List Nat):l.foldl (λo i=>o.bind λc=>if ok i c=true then some (g c i)else none) (none:Option γ)=none:=by
 induction l with
 |nil=>rfl
 |cons i l ih=>exact ih
theorem M1{γ β σ:Type}{F:(σ->Option β)->σ->Option β}{R:Nat}{x:σ}(n:Nat)(st:Nat->γ->σ)(ok:Nat->γ->Bool)(g:γ->Nat->γ)(out:γ->Option β){fE:Option β}(c:γ)(Inv:Nat->γ->Prop)(hx:x=st 0 c)(hR:n<R)(h0:Inv 0 c)
  (step:∀(i:Nat) c,(i:Int)<(n:Int)->Inv i c->(ok i c=true->Inv (i+1) (g c i))∧∀s,F s (st i c)=if ok i c=true then s (st (i+1) (g c i))else fE)(fin:∀c s,Inv n c->F s (st n c)=out c):
  iter F R x=match Ha ok g n c with|some c=>out c|none=>fE:=by
 subst hx
 have:∀(d i:Nat) (c:γ),i+d=n->Inv i c->∀R,d<R->iter F R (st i c)=match((List.range n).drop i).foldl (λo i=>o.bind λc=>if ok i c=true then some (g c i)else none) (some c)with|some c=>out c|none=>fE:=by
  intro d
  induction d with
  |zero=>
   intro i c hi hc R hR
   cases R with
   |zero=>omega
   |succ R=>
    rw[Nat.add_zero]at hi
    subst hi
    rw[List.drop_eq_nil_iff.2 (by simp)]
    exact fin _ _ hc
  |succ d ih=>
   intro i c hi hc R hR
   cases R with
   |zero=>omega
   |succ R=>
    have bf:i<(List.range n).length:=by simp;omega
    unfold iter
    obtain⟨h1,h2⟩:=step i c (by omega) hc
    rw[h2,List.drop_eq_getElem_cons bf,List.foldl_cons,List.getElem_range]
    cases hp:ok i c with
    |true=>
     simp only[if_true,Option.bind_some,hp]
     exact ih (i+1) _ (by omega) (h1 hp) R (by omega)
    |false=>
     simp only[dh,if_false,Option.bind_some,hp,W9]
 have h:=this n 0 c (by omega) h0 R hR
 simpa[Ha]using h
theorem W_{γ:Type}{ok:Nat->γ->Bool}{g:γ->Nat->γ}(P:γ->Bool){n:Nat}{c:γ}(qM:∀c i,P (g c i)=true->P c=true)(cV:∀i c,i<n->P c=true->ok i c=P (g c i))(h:P c=true):
  Ha ok g n c=if P ((List.range n).foldl g c)=true then some ((List.range n).foldl g c)else none:=by
 have:∀(l:List Nat) (c:γ),(∀i∈l,i<n)->P c=true->l.foldl (λo i=>o.bind λc=>if ok i c=true then some (g c i)else none) (some c)=if P (l.foldl g c)=true then some (l.foldl g c)else none:=by
  intro l
  induction l with
  |nil=>intro c _ hc;simp[hc]
  |cons i l ih=>
   intro c hl hc
   rw[List.foldl_cons,List.foldl_cons,Option.bind_some,cV i c (hl i (.head _)) hc]
   cases hp:P (g c i)with
   |true=>rw[if_pos rfl];exact ih _ (λj hj=>hl j (.tail _ hj)) hp
   |false=>
    rw[if_neg (by simp),W9]
    have:P (l.foldl g (g c i))=false:=by
     have hm:∀(l:List Nat) (c:γ),P (l.foldl g c)=true->P c=true:=by
      intro l
      induction l with
      |nil=>exactλc h=>h
      |cons j l ih=>exactλc h=>qM _ _ (ih _ h)
     cases hq:P (l.foldl g (g c i))with
     |false=>rfl
     |true=>rw[hm _ _ hq]at hp;cases hp
    simp[this]
 exact this _ c (λi hi=>by simpa using hi) h
theorem Hb{α:Type}(p:α->Bool)(l:List α)(acc:List α):l.foldl (λc a=>if p a=true then c++[a]else c) acc=acc++l.filter p:=by
 induction l generalizing acc with
 |nil=>simp
 |cons a l ih=>
  rw[List.foldl_cons,ih]
  cases h:p a<;>simp[h,List.filter_cons]
def ps0:=(aA (aA (aA (aA (@eB T (List T)) (aA trivial @Wf)) (aA @akK (aA @akL @akM))) (aA (aA trivial (aA @akN @akO)) (aA @akP (aA @akQ trivial)))) (aA (aA (aA trivial (aA trivial trivial)) (aA trivial (aA trivial trivial))) (aA (aA trivial (aA @Wg @Wh)) (aA @Wi (aA @Wj @Wl)))))
def ps1:=(aA (aA (aA (aA trivial (aA trivial trivial)) (aA trivial (aA trivial trivial))) (aA (aA trivial (aA trivial trivial)) (aA trivial (aA trivial W6)))) (aA (aA (aA (λ(p:Prop) (_:Decidable p)=>@decide_eq_true_eq p _) (aA bD Bool.or_eq_true)) (aA an6 (aA an7 an8))) (aA (aA an4 (aA an5 @GY)) (aA anU (aA @Vr @qb)))))
def ps2:=(aA (aA (aA (aA @Vt (aA @Vu @Vv)) (aA @GF (aA @zw @zx))) (aA (aA @zy (aA @ajI anV)) (aA anW (aA anX Mm)))) (aA (aA (aA Vy (aA Mo @EK)) (aA GD (aA Vs @xg))) (aA (aA @zv (aA ajY anY)) (aA anZ (aA @an0 CI)))))
def ps3:=(aA (aA (aA (aA MX (aA CJ an9)) (aA an_ (aA an' aoa))) (aA (aA aob (aA aoc Vw)) (aA Vx (aA an1 an2)))) (aA (aA (aA @an3 (aA (λ(k:Nat)=>@Int.toNat_natCast k) (λ(α:Type) (f:α->List T) (l:List α)=>@List.length_map α (List T) l f))) (aA als (aA alI trivial))) (aA (aA alY (aA ami amu)) (aA trivial (aA amP am7)))))
def ps4:=(aA (aA (aA (aA anv (aA anR trivial)) (aA trivial (aA trivial @akT))) (aA (aA @akU (aA @akV @akW)) (aA @Wr (aA @Ws @G4)))) (aA (aA (aA @akX (aA @CD @Wt)) (aA @akY (aA @akZ @ak0))) (aA (aA @ak1 (aA @ak2 @ak3)) (aA @ak4 (aA @ak5 @Wu)))))
def ps5:=(aA (aA (aA (aA @Wv (aA @ak6 @ak7)) (aA @Ww (aA @Wx @ak8))) (aA (aA @ak9 (aA @ak_ @ak')) (aA @alb (aA @alc @ald)))) (aA (aA (aA @ale (aA @alf @alg)) (aA @alh (aA @ali @alj))) (aA (aA @alk (aA @Wy @Wz)) (aA @alm (aA @aln @WC)))))
def ps6:=(aA (aA (aA (aA @WD (aA @alo @alp)) (aA @alq (aA @alr @alu))) (aA (aA @alv (aA @alw @alx)) (aA @aly (aA @alz @alA)))) (aA (aA (aA @alB (aA @alC @alD)) (aA @WE (aA @WG @alE))) (aA (aA @alF (aA @WH @WI)) (aA @alG (aA @alH trivial)))))
def ps7:=(aA (aA (aA (aA trivial (aA trivial trivial)) (aA trivial (aA trivial trivial))) (aA (aA trivial (aA trivial trivial)) (aA trivial (aA trivial trivial)))) (aA (aA (aA trivial (aA @alM @alN)) (aA @alO (aA @alP @alQ))) (aA (aA @alR (aA @WJ @WK)) (aA @alS (aA @alT @WL)))))
def ps8:=(aA (aA (aA (aA @WM (aA @alU @alV)) (aA @alW (aA @alX @alZ))) (aA (aA @al0 (aA @al1 @al2)) (aA @al3 (aA @al4 @al5)))) (aA (aA (aA @al6 (aA @al7 @al8)) (aA @al9 (aA @al_ @al'))) (aA (aA @ama (aA @amb @amc)) (aA @amd (aA @ame @WO)))))
def ps9:=(aA (aA (aA (aA @WQ (aA @amf @amg)) (aA @WR (aA @amh @amj))) (aA (aA @amk (aA @aml @amm)) (aA @amn (aA @amo @MS)))) (aA (aA (aA @amp (aA @J4 @J5)) (aA @amq (aA @amr @ams))) (aA (aA @amt (aA trivial trivial)) (aA trivial (aA trivial trivial)))))
def aoe:=(aA (aA (aA (aA trivial (aA trivial trivial)) (aA trivial (aA trivial trivial))) (aA (aA trivial (aA trivial trivial)) (aA trivial (aA trivial trivial)))) (aA (aA (aA trivial (aA trivial trivial)) (aA @amv (aA @amw @amx))) (aA (aA @amy (aA @amz @amA)) (aA @amB (aA @amC @amD)))))
def aof:=(aA (aA (aA (aA @amE (aA @amF @amG)) (aA @amH (aA @amI @amJ))) (aA (aA @amK (aA @WU @WV)) (aA @amL (aA @amM @amN)))) (aA (aA (aA @amO (aA @amR @amS)) (aA @amT (aA @amU @amV))) (aA (aA @amW (aA @amX @amY)) (aA @amZ (aA @am0 @WW)))))
def aog:=(aA (aA (aA (aA @WX (aA @am1 @am2)) (aA @WY (aA @WZ @am3))) (aA (aA @am4 (aA @am5 @am6)) (aA @am_ (aA @am' @ana)))) (aA (aA (aA @anb (aA @anc @ane)) (aA @anf (aA @ang @anh))) (aA (aA @ani (aA @anj @ank)) (aA @anl (aA @anm @ann)))))
def aoh:=(aA (aA (aA (aA @ano (aA @anp @anq)) (aA @W3 (aA @W4 @anr))) (aA (aA @ans (aA @ant @anu)) (aA @anz (aA @anA @anB)))) (aA (aA (aA @anC (aA @anD @anE)) (aA @anF (aA @anG @anH))) (aA (aA @anI (aA @anJ @anK)) (aA @anM (aA @anN @kM_)))))
def aoi:=(aA (aA (aA (aA @W5 (aA @anO @anP)) (aA @MW (aA @anQ trivial))) (aA (aA trivial (aA trivial trivial)) (aA trivial (aA trivial trivial)))) (aA (aA (aA trivial (aA trivial trivial)) (aA trivial (aA trivial trivial))) (aA (aA trivial (aA trivial trivial)) (aA trivial (aA trivial trivial)))))
def aoj:=(aA (aA (aA (aA trivial (aA trivial trivial)) (aA trivial (aA trivial trivial))) (aA (aA trivial (aA trivial trivial)) (aA trivial (aA trivial trivial)))) (aA (aA (aA trivial (aA trivial trivial)) (aA trivial (aA trivial trivial))) (aA (aA trivial (aA trivial trivial)) (aA trivial (aA trivial trivial)))))
def aok:=(aA (aA (aA trivial (aA trivial trivial)) (aA (aA trivial trivial) (aA trivial trivial))) (aA (aA (aA trivial trivial) (aA trivial trivial)) (aA (aA trivial trivial) (aA trivial trivial))))
def pq:=(aA (aA (aA (aA (aA We W6) (aA akk (aA akl akm))) (aA (aA akn (aA ako akp)) (aA akq (aA akr aks)))) (aA (aA (aA akt aku) (aA akv (aA akw akx))) (aA (aA aky (aA akz akA)) (aA akB (aA akC akD))))) (aA (aA (aA (aA akE akF) (aA akG (aA akH akI))) (aA (aA akJ (aA trivial @Wg)) (aA @Wh (aA @Wi @Wj)))) (aA (aA (aA @Wl (aA trivial trivial)) (aA trivial (aA trivial trivial))) (aA (aA trivial (aA trivial trivial)) (aA trivial (aA trivial trivial))))))
def pj:=aA akR trivial
def ps:=(aA (aA (aA (aA ps0 ps1) (aA ps2 ps3)) (aA (aA ps4 ps5) (aA ps6 ps7))) (aA (aA (aA ps8 ps9) (aA aoe aof)) (aA (aA aog aoh) (aA aoi (aA aoj aok)))))
def pS:=aA ps pz
def pQ:=aA pq pj
end Go.Proofs.YtjimmglpkndemaaGreatC

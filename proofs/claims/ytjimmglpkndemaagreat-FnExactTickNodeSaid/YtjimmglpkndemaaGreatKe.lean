/- The walk by reflection: a part of its laws, for any function. Conditions: none. -/
import Derived.Test.YtjimmglpkndemaaGreatKd
namespace Go.Proofs.YtjimmglpkndemaaGreatC
set_option linter.unusedVariables false
def pv(p:Prim)(l:List T)(k:T->Option (List T)):Option (List T):=(Prim.ev p l).bind k
theorem TR(p:Prim)(l:List T)(k:T->Option (List T)):pv p l k=(Prim.ev p l).bind k:=rfl
def Yz(x:T)(k:T->Option (List T)):Option (List T):=(Prim.ev (.bz) [x]).bind k
theorem ahr(x:T)(k:T->Option (List T)):Yz x k=(Prim.ev (.bz) [x]).bind k:=rfl
def Ya(x y:T)(k:T->Option (List T)):Option (List T):=(Prim.ev (.bin .add) [x,y]).bind k
theorem ahs(x y:T)(k:T->Option (List T)):Ya x y k=(Prim.ev (.bin .add) [x,y]).bind k:=rfl
def Yb(x y:T)(k:T->Option (List T)):Option (List T):=(Prim.ev (.bW) [x,y]).bind k
theorem aht(x y:T)(k:T->Option (List T)):Yb x y k=(Prim.ev (.bW) [x,y]).bind k:=rfl
def Yl(x y:T)(k:T->Option (List T)):Option (List T):=(Prim.ev (.bin .lss) [x,y]).bind k
theorem ahu(x y:T)(k:T->Option (List T)):Yl x y k=(Prim.ev (.bin .lss) [x,y]).bind k:=rfl
def Ye(x y:T)(k:T->Option (List T)):Option (List T):=(Prim.ev (.bin .eql) [x,y]).bind k
theorem ahv(x y:T)(k:T->Option (List T)):Ye x y k=(Prim.ev (.bin .eql) [x,y]).bind k:=rfl
def Yn(x:T)(k:T->Option (List T)):Option (List T):=(Prim.ev (.len) [x]).bind k
theorem ahw(x:T)(k:T->Option (List T)):Yn x k=(Prim.ev (.len) [x]).bind k:=rfl
def Yt(x:T)(k:T->Option (List T)):Option (List T):=(Prim.ev (.un .not) [x]).bind k
theorem ahx(x:T)(k:T->Option (List T)):Yt x k=(Prim.ev (.un .not) [x]).bind k:=rfl
def Yp(x y:T)(k:T->Option (List T)):Option (List T):=(Prim.ev (.app true 1) [x,y]).bind k
theorem ahy(x y:T)(k:T->Option (List T)):Yp x y k=(Prim.ev (.app true 1) [x,y]).bind k:=rfl
def Yo(x y:T)(k:T->Option (List T)):Option (List T):=(Prim.ev (.app false 3) [x,y]).bind k
theorem ahz(x y:T)(k:T->Option (List T)):Yo x y k=(Prim.ev (.app false 3) [x,y]).bind k:=rfl
def Yu(x y:T)(k:T->Option (List T)):Option (List T):=(Prim.ev (.bin .neq) [x,y]).bind k
theorem ahA(x y:T)(k:T->Option (List T)):Yu x y k=(Prim.ev (.bin .neq) [x,y]).bind k:=rfl
def Yg(x y:T)(k:T->Option (List T)):Option (List T):=(Prim.ev (.bin .gtr) [x,y]).bind k
theorem ahB(x y:T)(k:T->Option (List T)):Yg x y k=(Prim.ev (.bin .gtr) [x,y]).bind k:=rfl
def Ym(x y:T)(k:T->Option (List T)):Option (List T):=(Prim.ev (.bin .leq) [x,y]).bind k
theorem ahC(x y:T)(k:T->Option (List T)):Ym x y k=(Prim.ev (.bin .leq) [x,y]).bind k:=rfl
def Yh(x y:T)(k:T->Option (List T)):Option (List T):=(Prim.ev (.bin .geq) [x,y]).bind k
theorem ahD(x y:T)(k:T->Option (List T)):Yh x y k=(Prim.ev (.bin .geq) [x,y]).bind k:=rfl
def Ys(x y:T)(k:T->Option (List T)):Option (List T):=(Prim.ev (.bin .sub) [x,y]).bind k
theorem ahE(x y:T)(k:T->Option (List T)):Ys x y k=(Prim.ev (.bin .sub) [x,y]).bind k:=rfl
def Yv(x y:T)(k:T->Option (List T)):Option (List T):=(Prim.ev (.sub 1 true false) [x,y]).bind k
theorem ahF(x y:T)(k:T->Option (List T)):Yv x y k=(Prim.ev (.sub 1 true false) [x,y]).bind k:=rfl
def Yw(x y:T)(k:T->Option (List T)):Option (List T):=(Prim.ev (.sub 1 false true) [x,y]).bind k
theorem ahG(x y:T)(k:T->Option (List T)):Yw x y k=(Prim.ev (.sub 1 false true) [x,y]).bind k:=rfl
def Yx(x:T)(k:T->Option (List T)):Option (List T):=(Prim.ev (.lit 1 [true]) [x]).bind k
theorem ahH(x:T)(k:T->Option (List T)):Yx x k=(Prim.ev (.lit 1 [true]) [x]).bind k:=rfl
def Yy(x y:T)(k:T->Option (List T)):Option (List T):=(Prim.ev (.app false 8) [x,y]).bind k
theorem ahI(x y:T)(k:T->Option (List T)):Yy x y k=(Prim.ev (.app false 8) [x,y]).bind k:=rfl
def Yc(w j:Nat)(x y:T)(k:T->Option (List T)):Option (List T):=(Prim.ev (.cell w j) [x,y]).bind k
theorem ahJ(w j:Nat)(x y:T)(k:T->Option (List T)):Yc w j x y k=(Prim.ev (.cell w j) [x,y]).bind k:=rfl
def Yq(x y:T)(k:T->Option (List T)):Option (List T):=(Prim.ev .bW [x,y]).bind λ_=>(Prim.ev (.a_ 1 0) [x,y]).bind k
theorem ahK(x y:T)(k:T->Option (List T)):Yq x y k=(Prim.ev .bW [x,y]).bind λ_=>(Prim.ev (.a_ 1 0) [x,y]).bind k:=rfl
def Y1(x y:T)(k:T->Option (List T)):Option (List T):=(Prim.ev .bW [x,y]).bind λ_=>(Prim.ev (.cell 1 0) [x,y]).bind λa0=>k a0
theorem ahL(x y:T)(k:T->Option (List T)):Y1 x y k=(Prim.ev .bW [x,y]).bind λ_=>(Prim.ev (.cell 1 0) [x,y]).bind λa0=>k a0:=rfl
def Y2(x y:T)(k:T->T->Option (List T)):Option (List T):=(Prim.ev .bW [x,y]).bind λ_=>(Prim.ev (.cell 2 0) [x,y]).bind λa0=>(Prim.ev (.cell 2 1) [x,y]).bind λa1=>k a0 a1
theorem ahM(x y:T)(k:T->T->Option (List T)):Y2 x y k=(Prim.ev .bW [x,y]).bind λ_=>(Prim.ev (.cell 2 0) [x,y]).bind λa0=>(Prim.ev (.cell 2 1) [x,y]).bind λa1=>k a0 a1:=rfl
def Y3(x y:T)(k:T->T->T->Option (List T)):Option (List T):=(Prim.ev .bW [x,y]).bind λ_=>(Prim.ev (.cell 3 0) [x,y]).bind λa0=>(Prim.ev (.cell 3 1) [x,y]).bind λa1=>(Prim.ev (.cell 3 2) [x,y]).bind λa2=>k a0 a1 a2
theorem ahN(x y:T)(k:T->T->T->Option (List T)):Y3 x y k=(Prim.ev .bW [x,y]).bind λ_=>(Prim.ev (.cell 3 0) [x,y]).bind λa0=>(Prim.ev (.cell 3 1) [x,y]).bind λa1=>(Prim.ev (.cell 3 2) [x,y]).bind λa2=>k a0 a1 a2:=rfl
def Y4(x y:T)(k:T->T->T->T->Option (List T)):Option (List T):=(Prim.ev .bW [x,y]).bind λ_=>(Prim.ev (.cell 4 0) [x,y]).bind λa0=>(Prim.ev (.cell 4 1) [x,y]).bind λa1=>(Prim.ev (.cell 4 2) [x,y]).bind λa2=>(Prim.ev (.cell 4 3) [x,y]).bind λa3=>k a0 a1 a2 a3
theorem ahO(x y:T)(k:T->T->T->T->Option (List T)):Y4 x y k=(Prim.ev .bW [x,y]).bind λ_=>(Prim.ev (.cell 4 0) [x,y]).bind λa0=>(Prim.ev (.cell 4 1) [x,y]).bind λa1=>(Prim.ev (.cell 4 2) [x,y]).bind λa2=>(Prim.ev (.cell 4 3) [x,y]).bind λa3=>k a0 a1 a2 a3:=rfl
def Y6(x y:T)(k:T->T->T->T->T->T->Option (List T)):Option (List T):=(Prim.ev .bW [x,y]).bind λ_=>(Prim.ev (.cell 6 0) [x,y]).bind λa0=>(Prim.ev (.cell 6 1) [x,y]).bind λa1=>(Prim.ev (.cell 6 2) [x,y]).bind λa2=>(Prim.ev (.cell 6 3) [x,y]).bind λa3=>(Prim.ev (.cell 6 4) [x,y]).bind λa4=>(Prim.ev (.cell 6 5) [x,y]).bind λa5=>k a0 a1 a2 a3 a4 a5
theorem ahP(x y:T)(k:T->T->T->T->T->T->Option (List T)):Y6 x y k=(Prim.ev .bW [x,y]).bind λ_=>(Prim.ev (.cell 6 0) [x,y]).bind λa0=>(Prim.ev (.cell 6 1) [x,y]).bind λa1=>(Prim.ev (.cell 6 2) [x,y]).bind λa2=>(Prim.ev (.cell 6 3) [x,y]).bind λa3=>(Prim.ev (.cell 6 4) [x,y]).bind λa4=>(Prim.ev (.cell 6 5) [x,y]).bind λa5=>k a0 a1 a2 a3 a4 a5:=rfl
def Y8(x y:T)(k:T->T->T->T->T->T->T->T->Option (List T)):Option (List T):=(Prim.ev .bW [x,y]).bind λ_=>(Prim.ev (.cell 8 0) [x,y]).bind λa0=>(Prim.ev (.cell 8 1) [x,y]).bind λa1=>(Prim.ev (.cell 8 2) [x,y]).bind λa2=>(Prim.ev (.cell 8 3) [x,y]).bind λa3=>(Prim.ev (.cell 8 4) [x,y]).bind λa4=>(Prim.ev (.cell 8 5) [x,y]).bind λa5=>(Prim.ev (.cell 8 6) [x,y]).bind λa6=>(Prim.ev (.cell 8 7) [x,y]).bind λa7=>k a0 a1 a2 a3 a4 a5 a6 a7
theorem ahQ(x y:T)(k:T->T->T->T->T->T->T->T->Option (List T)):Y8 x y k=(Prim.ev .bW [x,y]).bind λ_=>(Prim.ev (.cell 8 0) [x,y]).bind λa0=>(Prim.ev (.cell 8 1) [x,y]).bind λa1=>(Prim.ev (.cell 8 2) [x,y]).bind λa2=>(Prim.ev (.cell 8 3) [x,y]).bind λa3=>(Prim.ev (.cell 8 4) [x,y]).bind λa4=>(Prim.ev (.cell 8 5) [x,y]).bind λa5=>(Prim.ev (.cell 8 6) [x,y]).bind λa6=>(Prim.ev (.cell 8 7) [x,y]).bind λa7=>k a0 a1 a2 a3 a4 a5 a6 a7:=rfl
def jn(k:af)(b:af->Option (List T)):Option (List T):=b k
def bp(o:Option (List T))(k:T->Option (List T)):Option (List T):=o.bind λts=>k (ts.getD 0 T.cp)
theorem TS(x0:T)(k:T->Option (List T)):bp (some [x0]) k=k x0:=rfl
def eE(k:T->Option (List T)):af:=λts=>k (ts.getD 0 T.cp)
theorem TT(x0:T)(k:T->Option (List T)):eE k [x0]=k x0:=rfl
def ed(k:T->T->Option (List T)):af:=λts=>k (ts.getD 0 T.cp) (ts.getD 1 T.cp)
theorem TU(x0 x1:T)(k:T->T->Option (List T)):ed k [x0,x1]=k x0 x1:=rfl
def mo(o:Option (List T))(k:T->T->T->Option (List T)):Option (List T):=o.bind λts=>k (ts.getD 0 T.cp) (ts.getD 1 T.cp) (ts.getD 2 T.cp)
theorem ahR(x0 x1 x2:T)(k:T->T->T->Option (List T)):mo (some [x0,x1,x2]) k=k x0 x1 x2:=rfl
def sM(k:T->T->T->Option (List T)):af:=λts=>k (ts.getD 0 T.cp) (ts.getD 1 T.cp) (ts.getD 2 T.cp)
theorem TV(x0 x1 x2:T)(k:T->T->T->Option (List T)):sM k [x0,x1,x2]=k x0 x1 x2:=rfl
def tX(o:Option (List T))(k:T->T->T->T->Option (List T)):Option (List T):=o.bind λts=>k (ts.getD 0 T.cp) (ts.getD 1 T.cp) (ts.getD 2 T.cp) (ts.getD 3 T.cp)
theorem ahS(x0 x1 x2 x3:T)(k:T->T->T->T->Option (List T)):tX (some [x0,x1,x2,x3]) k=k x0 x1 x2 x3:=rfl
def KD(k:T->T->T->T->Option (List T)):af:=λts=>k (ts.getD 0 T.cp) (ts.getD 1 T.cp) (ts.getD 2 T.cp) (ts.getD 3 T.cp)
theorem TW(x0 x1 x2 x3:T)(k:T->T->T->T->Option (List T)):KD k [x0,x1,x2,x3]=k x0 x1 x2 x3:=rfl
def Pn(k:T->T->T->T->T->Option (List T)):af:=λts=>k (ts.getD 0 T.cp) (ts.getD 1 T.cp) (ts.getD 2 T.cp) (ts.getD 3 T.cp) (ts.getD 4 T.cp)
theorem TX(x0 x1 x2 x3 x4:T)(k:T->T->T->T->T->Option (List T)):Pn k [x0,x1,x2,x3,x4]=k x0 x1 x2 x3 x4:=rfl
def TY(o:Option (List T))(k:T->T->T->T->T->T->Option (List T)):Option (List T):=o.bind λts=>k (ts.getD 0 T.cp) (ts.getD 1 T.cp) (ts.getD 2 T.cp) (ts.getD 3 T.cp) (ts.getD 4 T.cp) (ts.getD 5 T.cp)
theorem ahT(x0 x1 x2 x3 x4 x5:T)(k:T->T->T->T->T->T->Option (List T)):TY (some [x0,x1,x2,x3,x4,x5]) k=k x0 x1 x2 x3 x4 x5:=rfl
def C3(o:Option (List T))(k:T->T->T->T->T->T->T->Option (List T)):Option (List T):=o.bind λts=>k (ts.getD 0 T.cp) (ts.getD 1 T.cp) (ts.getD 2 T.cp) (ts.getD 3 T.cp) (ts.getD 4 T.cp) (ts.getD 5 T.cp) (ts.getD 6 T.cp)
theorem ahU(x0 x1 x2 x3 x4 x5 x6:T)(k:T->T->T->T->T->T->T->Option (List T)):C3 (some [x0,x1,x2,x3,x4,x5,x6]) k=k x0 x1 x2 x3 x4 x5 x6:=rfl
def po(o:Option (List T))(k:T->T->T->T->T->T->T->T->Option (List T)):Option (List T):=o.bind λts=>k (ts.getD 0 T.cp) (ts.getD 1 T.cp) (ts.getD 2 T.cp) (ts.getD 3 T.cp) (ts.getD 4 T.cp) (ts.getD 5 T.cp) (ts.getD 6 T.cp) (ts.getD 7 T.cp)
theorem ahV(x0 x1 x2 x3 x4 x5 x6 x7:T)(k:T->T->T->T->T->T->T->T->Option (List T)):po (some [x0,x1,x2,x3,x4,x5,x6,x7]) k=k x0 x1 x2 x3 x4 x5 x6 x7:=rfl
def KF(o:Option (List T))(k:T->T->T->T->T->T->T->T->T->Option (List T)):Option (List T):=o.bind λts=>k (ts.getD 0 T.cp) (ts.getD 1 T.cp) (ts.getD 2 T.cp) (ts.getD 3 T.cp) (ts.getD 4 T.cp) (ts.getD 5 T.cp) (ts.getD 6 T.cp) (ts.getD 7 T.cp) (ts.getD 8 T.cp)
theorem ahW(x0 x1 x2 x3 x4 x5 x6 x7 x8:T)(k:T->T->T->T->T->T->T->T->T->Option (List T)):KF (some [x0,x1,x2,x3,x4,x5,x6,x7,x8]) k=k x0 x1 x2 x3 x4 x5 x6 x7 x8:=rfl
def E2(k:T->T->T->T->T->T->T->T->T->T->Option (List T)):af:=λts=>k (ts.getD 0 T.cp) (ts.getD 1 T.cp) (ts.getD 2 T.cp) (ts.getD 3 T.cp) (ts.getD 4 T.cp) (ts.getD 5 T.cp) (ts.getD 6 T.cp) (ts.getD 7 T.cp) (ts.getD 8 T.cp) (ts.getD 9 T.cp)
theorem TZ(x0 x1 x2 x3 x4 x5 x6 x7 x8 x9:T)(k:T->T->T->T->T->T->T->T->T->T->Option (List T)):E2 k [x0,x1,x2,x3,x4,x5,x6,x7,x8,x9]=k x0 x1 x2 x3 x4 x5 x6 x7 x8 x9:=rfl
theorem ahX(k:af)(b:af->Option (List T)):jn k b=b k:=rfl
def PL.arity(j:Nat):PL->Option Nat
 | .ret _=>none
 | .ins _ k=>k.arity j
 | .ite _ x y=>match x.arity j with|some n=>some n|none=>y.arity j
 | .loop _ b=>b.arity (j+1)
 | .join k b=>match k.arity j with|some n=>some n|none=>b.arity (j+1)
 | .go i xs=>bif Nat.beq i j then some xs.length else none
 | .qR _ _=>none
def PL.kH(S:Nat->af)(R:Nat)(K:List af)(ρ:List T):PL->Option (List T)
 | .ret xs=>some (xs.map (Lf.ev ρ))
 | .ins (.pr p xs) k=>(p.ev (xs.map (Lf.ev ρ))).bind λt=>k.kH S R K (ρ++[t])
 | .ins (.cl g xs m) k=>(S g (xs.map (Lf.ev ρ))).bind λts=>k.kH S R K (ρ++fS ts 0 m)
 | .ite c x y=>aA (ρ.getD c T.cp) (x.kH S R K ρ) (y.kH S R K ρ)
 | .loop xs body=>iter (λself ts=>body.kH S R (self::K) (ρ++fS ts 0 xs.length)) R (xs.map (Lf.ev ρ))
 | .join k body=>jn (λts=>k.kH S R K (ρ++fS ts 0 ((body.arity 0).getD 0))) λf=>body.kH S R (f::K) ρ
 | .go j xs=>match K[j]? with
  |some f=>f (xs.map (Lf.ev ρ))
  |none=>none
 | .qR _ _=>none
def PL.wf(ar:List Nat):PL->Bool
 | .ret _=>true
 | .ins _ k=>k.wf ar
 | .ite _ x y=>x.wf ar&&y.wf ar
 | .loop xs b=>b.wf (xs.length::ar)
 | .join k b=>k.wf ar&&b.wf ((b.arity 0).getD 0::ar)
 | .go j xs=>match ar[j]? with|some m=>Nat.beq m xs.length|none=>false
 | .qR _ _=>true
theorem T0:∀(ts us:List T),fS (us++ts) us.length ts.length=ts
 | [],us=>rfl
 |t::ts,us=>by
  have h:=T0 ts (us++[t])
  rw[List.append_assoc,List.length_append]at h
  simp only[List.length_cons,fS]
  refine congr (congrArg _ ?_) h
  simp
theorem T1(ts:List T){m:Nat}(h:ts.length=m):fS ts 0 m=ts:=by
 subst h;exact T0 ts []
theorem T2{F G:af->af}{m:Nat}(h:∀s s',(∀ts:List T,ts.length=m->s ts=s' ts)->∀ts:List T,ts.length=m->F s ts=G s' ts):∀R (ts:List T),ts.length=m->iter F R ts=iter G R ts
 |0,_,_=>rfl
 |R+1,ts,ht=>by
  unfold iter
  exact h _ _ (T2 h R) ts ht
theorem HX(S:Nat->af)(R:Nat):∀(p:PL) (ar:List Nat) (K K':List af) (ρ:List T),p.wf ar=true->
  (∀(j m:Nat),ar[j]?=some m->∃f f':af,K[j]?=some f∧K'[j]?=some f'∧∀ts:List T,ts.length=m->f ts=f' ts)->p.den S R K ρ=p.kH S R K' ρ
 | .ret xs,ar,K,K',ρ,_,_=>by simp only[PL.den,PL.kH]
 | .ins (.pr p xs) k,ar,K,K',ρ,hw,hk=>by
  simp only[PL.den,PL.kH]
  exact congrArg _ (funext λt=>HX S R k ar K K' _ hw hk)
 | .ins (.cl g xs m) k,ar,K,K',ρ,hw,hk=>by
  simp only[PL.den,PL.kH]
  exact congrArg _ (funext λt=>HX S R k ar K K' _ hw hk)
 | .ite c x y,ar,K,K',ρ,hw,hk=>by
  simp only[PL.wf,bk]at hw
  rw[mR]
  simp only[PL.kH]
  rw[HX S R x ar K K' ρ hw.1 hk,HX S R y ar K K' ρ hw.2 hk]
 | .loop xs b,ar,K,K',ρ,hw,hk=>by
  simp only[PL.den,PL.kH]
  refine T2 (m:=xs.length) (λs s' hs ts ht=>?_) R _ (by simp)
  rw[T1 ts ht]
  refine HX S R b (xs.length::ar) _ _ _ hw λj m hj=>?_
  cases j with
  |zero=>cases hj;exact⟨s,s',rfl,rfl,hs⟩
  |succ j=>exact hk j m hj
 | .join k b,ar,K,K',ρ,hw,hk=>by
  simp only[PL.wf,bk]at hw
  simp only[PL.den,PL.kH,jn]
  refine HX S R b ((b.arity 0).getD 0::ar) _ _ _ hw.2 λj m hj=>?_
  cases j with
  |zero=>
   cases hj
   refine⟨_,_,rfl,rfl,λts ht=>?_⟩
   show PL.den S R K (ρ++ts) k=PL.kH S R K' (ρ++fS ts 0 _) k
   rw[T1 ts ht]
   exact HX S R k ar K K' _ hw.1 hk
  |succ j=>exact hk j m hj
 | .go j xs,ar,K,K',ρ,hw,hk=>by
  simp only[PL.wf]at hw
  cases hm:ar[j]? with
  |none=>rw[hm]at hw;exact absurd hw (by simp)
  |some m=>
   rw[hm]at hw
   have pE:=dN hw
   obtain⟨f,f',h1,h2,h3⟩:=hk j m hm
   simp only[PL.den,PL.kH,h1,h2]
   exact h3 _ (by simp[pE])
 | .qR _ _,ar,K,K',ρ,_,_=>by simp only[PL.den,PL.kH]
theorem dq{S:Nat->af}{R:Nat}{p:PL}{ρ:List T}(h:p.wf []=true):p.den S R [] ρ=p.kH S R [] ρ:=
 HX S R p [] [] [] ρ h λj m hj=>by simp at hj
set_option linter.unusedSimpArgs false
abbrev ii(n:Int):T:=.c (.int .i64 n)
abbrev bb(b:Bool):T:=.c (.bool b)
def jh(n:Int):Prop:=(Lit.int .i64 n).wf=true
theorem jh.lo{n:Int}(h:jh n):-9223372036854775808<=n:=by
 simp[jh,Lit.wf,IntKind.min,IntKind.max,IntKind.signed,IntKind.bits]at h;omega
theorem jh.hi{n:Int}(h:jh n):n<9223372036854775808:=by
 simp[jh,Lit.wf,IntKind.min,IntKind.max,IntKind.signed,IntKind.bits]at h;omega
theorem jh.mk{n:Int}(h:-9223372036854775808<=n)(h':n<9223372036854775808):jh n:=by
 simp[jh,Lit.wf,IntKind.min,IntKind.max,IntKind.signed,IntKind.bits];omega
def gt{α:Type} [Inhabited α](l:List α)(n:Int):α:=l.getD n.toNat default
theorem dz{α:Type} [Inhabited α]{enc:α->List T}{l:List α}{n:Int}(h:0<=n)(h':n<l.length):(l.map enc)[n.toNat]?=some (enc (gt l n)):=by
 have hn:n.toNat<l.length:=by omega
 rw[List.getElem?_map,List.getElem?_eq_getElem hn]
 simp[gt,List.getD,List.getElem?_eq_getElem hn]
theorem KG{α:Type} [Inhabited α]{l:List α}{i:Nat}{a:α}(h:l[i]?=some a):gt l (i:Int)=a:=by
 simp[gt,List.getD,h]
theorem d_{α:Type} [Inhabited α]{l:List α}{i:Nat}(h:i<l.length):gt l (i:Int)=l[i]:=KG (List.getElem?_eq_getElem h)
theorem kO{α:Type} [Inhabited α]{l:List α}{n:Int}(h:0<=n)(h':n<l.length):gt l n∈l:=by
 have hn:n.toNat<l.length:=by omega
 simp[gt,List.getD,List.getElem?_eq_getElem hn]
theorem Bk{xs:List (List T)}{n:Int}{r:List T}(h0:0<=n)(h:xs[n.toNat]?=some r):uE (.l xs) (ii n)=some r:=by
 simp[uE,T.rows,T.int,h0,h]
theorem T3{α:Type} [Inhabited α]{enc:α->List T}{l:List α}{n:Int}(h:0<=n)(h':n<l.length):Prim.ev .bW [.l (l.map enc),ii n]=some (bb true):=by
 simp[Prim.ev,Bk h (dz (enc:=enc) h h')]
theorem im{xs:List (List T)}{n:Int}{w j:Nat}{r:List T}{t:T}(h0:0<=n)(h:xs[n.toNat]?=some r)(hw:r.length=w)(hj:r[j]?=some t):Prim.ev (.cell w j) [.l xs,ii n]=some t:=by
 simp[Prim.ev,Bk h0 h,hw,hj]
theorem ll{xs:List (List T)}{n:Int}{w j:Nat}{r:List T}{t:T}(h0:0<=n)(h:xs[n.toNat]?=some r)(hw:r.length=w)(hj:r[j]?=some t)(hs:eA t=true):Prim.ev (.a_ w j) [.l xs,ii n]=some t:=by
 simp[Prim.ev,Bk h0 h,hw,hj,hs]
theorem yD{xs ys:List (List T)}{n:Int}{w j:Nat}{r:List T}(h0:0<=n)(h:xs[n.toNat]?=some r)(hw:r.length=w)(hj:r[j]?=some (.l ys)):Prim.ev (.dJ w j) [.l xs,ii n]=some (.l ys):=by
 simp[Prim.ev,Bk h0 h,hw,hj,T.rows]
theorem E3{α:Type}{enc:α->List T}{l:List α}:Prim.ev .len [.l (l.map enc)]=some (ii l.length):=by
 rw[pc,List.length_map]
theorem E4{α:Type}{enc:α->List T}{w:Nat}(hw:∀x,(enc x).length=w)(l:List α):okW w (l.map enc)=true:=by
 cases l with
 |nil=>rfl
 |cons x l=>simp[okW,hw]
theorem rW{α:Type}{enc:α->List T}{w:Nat}{sc:Bool}(hw:∀x,(enc x).length=w)(hs:sc=false∨∀x,(enc x).all eA=true){l m:List α}(h:l.length+m.length<qS):Prim.ev (.app sc w) [.l (l.map enc),.l (m.map enc)]=some (.l ((l++m).map enc)):=by
 rw[List.map_append]
 refine ahg (by simpa using h) ?_ (E4 hw l) (E4 hw m)
 rcases hs with rfl|hs
 ·rfl
 ·have:(m.map enc).all (·.all eA)=true:=by simp only[List.all_map,List.all_eq_true];exactλx _=>hs x
  rw[this];simp
theorem tY{α:Type}{enc:α->List T}{w:Nat}{sc:Bool}(hw:∀x,(enc x).length=w)(hs:sc=false∨∀x,(enc x).all eA=true){m:List α}(h:m.length<qS):Prim.ev (.app sc w) [.l [],.l (m.map enc)]=some (.l (m.map enc)):=
 rW (l:=[]) hw hs (by simpa using h)
theorem Bl{α:Type}{enc:α->List T}{w:Nat}(hw:∀x,(enc x).length=w){l:List α}{a:Int}(h:0<=a)(h':a<=l.length):Prim.ev (.sub w true false) [.l (l.map enc),ii a]=some (.l ((l.drop a.toNat).map enc)):=by
 simp only[Prim.ev,E4 hw l,if_true,List.length_map,dU,h,h']
 rw[if_pos (by omega)]
 have:((l.map enc).take (l.length:Int).toNat).drop a.toNat=(l.drop a.toNat).map enc:=by
  rw[List.map_drop,Int.toNat_natCast,List.take_of_length_le (by simp)]
 rw[this]
theorem Bm{α:Type}{enc:α->List T}{w:Nat}(hw:∀x,(enc x).length=w){l:List α}{a:Int}(h:0<=a)(h':a<=l.length):Prim.ev (.sub w false true) [.l (l.map enc),ii a]=some (.l ((l.take a.toNat).map enc)):=by
 simp only[Prim.ev,E4 hw l,if_true,List.length_map,dU,h,h',Int.le_refl,Int.toNat_zero,List.drop_zero,List.map_take]
theorem KH{α:Type}{enc:α->List T}{ok:α->Prop}{ty:List Ty}(h:∀r,cV ty r->∃x,r=enc x∧ok x):∀{xs:List (List T)},(∀r∈xs,cV ty r)->∃l:List α,xs=l.map enc∧∀x∈l,ok x
 | [],_=>⟨[],rfl,by simp⟩
 |r::xs,hx=>by
  obtain⟨x,rfl,h1⟩:=h r (hx _ (.head _))
  obtain⟨l,rfl,h2⟩:=KH h (xs:=xs) λr hr=>hx r (.tail _ hr)
  refine⟨x::l,rfl,?_⟩
  intro y hy
  rcases List.mem_cons.1 hy with rfl|hy
  ·exact h1
  ·exact h2 y hy
theorem rX{α:Type}{enc:α->List T}{ok:α->Prop}{ty:List Ty}(h:∀x,ok x->cV ty (enc x)){l:List α}(hl:∀x∈l,ok x):∀r∈l.map enc,cV ty r:=by
 intro r hr
 obtain⟨x,hx,rfl⟩:=List.mem_map.1 hr
 exact h x (hl x hx)
def eJ{α:Type}(f:α->Nat):List α->Nat
 | []=>0
 |x::l=>1+(f x+eJ f l)
theorem rY{α:Type}{enc:α->List T}{f:α->Nat}(h:∀x,lj (enc x)=f x)(l:List α):gE (l.map enc)=eJ f l:=by
 induction l with
 |nil=>simp[gE,eJ]
 |cons x l ih=>simp only[List.map_cons,gE,eJ,h,ih]
theorem yE{α:Type}{f:α->Nat}(l:List α):l.length<=eJ f l:=by
 induction l with
 |nil=>exact Nat.le_refl _
 |cons x l ih=>simp only[List.length_cons,eJ];omega
theorem ahY{α:Type}{f:α->Nat}{l:List α}{x:α}(h:x∈l):f x+1<=eJ f l:=by
 induction l with
 |nil=>cases h
 |cons y l ih=>
  simp only[eJ]
  rcases List.mem_cons.1 h with rfl|h
  ·omega
  ·have:=ih h;omega
def aD(n:Int):List T:=[ii n]
def ji:List Ty:=[.i .i64]
def tZ(n:Int):Prop:=jh n
theorem ahZ(r:List T)(h:cV ji r):∃n,r=aD n∧tZ n:=by
 obtain⟨_,_,rfl,⟨n,rfl,hn⟩,rfl⟩:=ng h
 exact⟨n,rfl,hn⟩
theorem E5(n:Int)(h:tZ n):cV ji (aD n):=li ⟨_,_,rfl,⟨_,rfl,h⟩,rfl⟩
def t_(_:Int):Nat:=0
theorem E6(n:Int):lj (aD n)=t_ n:=by simp only[aD,eU,fG,gB,t_]
def jD(b:Bool):List T:=[bb b]
theorem ah0{l:List Int}{n:Int}(h:0<=n)(h':n<l.length):Prim.ev (.cell 1 0) [.l (l.map aD),ii n]=some (ii (gt l n)):=im h (dz h h') rfl rfl
theorem ah1{l:List Int}{n:Int}(h:0<=n)(h':n<l.length):Prim.ev (.a_ 1 0) [.l (l.map aD),ii n]=some (ii (gt l n)):=ll h (dz h h') rfl rfl rfl
theorem T4{l m:List Int}(h:l.length+m.length<4294967296):Prim.ev (.app false 1) [.l (l.map aD),.l (m.map aD)]=some (.l ((l++m).map aD)):=rW (w:=1) (λ_=>rfl) (.inl rfl) h
theorem T5{m:List Int}(h:m.length<4294967296):Prim.ev (.app false 1) [.l [],.l (m.map aD)]=some (.l (m.map aD)):=tY (w:=1) (λ_=>rfl) (.inl rfl) h
theorem yF{l m:List Int}(h:l.length+m.length<4294967296):Prim.ev (.app true 1) [.l (l.map aD),.l (m.map aD)]=some (.l ((l++m).map aD)):=rW (w:=1) (λ_=>rfl) (.inr λ_=>rfl) h
theorem T6{m:List Int}(h:m.length<4294967296):Prim.ev (.app true 1) [.l [],.l (m.map aD)]=some (.l (m.map aD)):=tY (w:=1) (λ_=>rfl) (.inr λ_=>rfl) h
theorem ah2{l:List Int}{x:Int}(h:l.length<4294967295):Prim.ev (.app false 1) [.l (l.map aD),.l ([x].map aD)]=some (.l ((l++[x]).map aD)):=T4 (by simp;omega)
theorem ah3{x:Int}:Prim.ev (.app false 1) [.l [],.l ([x].map aD)]=some (.l ([x].map aD)):=T5 (by simp)
theorem Bn{l:List Int}{x:Int}(h:l.length<4294967295):Prim.ev (.app true 1) [.l (l.map aD),.l ([x].map aD)]=some (.l ((l++[x]).map aD)):=yF (by simp;omega)
theorem ah4{x:Int}:Prim.ev (.app true 1) [.l [],.l ([x].map aD)]=some (.l ([x].map aD)):=T6 (by simp)
theorem ah5{l:List Int}{a:Int}(h:0<=a)(h':a<=l.length):Prim.ev (.sub 1 true false) [.l (l.map aD),ii a]=some (.l ((l.drop a.toNat).map aD)):=Bl (enc:=aD) (w:=1) (λ_=>rfl) h h'
theorem ah6{l:List Int}{a:Int}(h:0<=a)(h':a<=l.length):Prim.ev (.sub 1 false true) [.l (l.map aD),ii a]=some (.l ((l.take a.toNat).map aD)):=Bm (enc:=aD) (w:=1) (λ_=>rfl) h h'
theorem ah7(x:Int):Prim.ev (.lit 1 [true]) [ii x]=some (.l ([x].map aD)):=pV (by decide) rfl rfl
theorem ah8(x:Int):Prim.ev (.lit 1 []) [ii x]=some (.l ([x].map aD)):=pV (by decide) rfl rfl
theorem ah9{l:List Bool}{n:Int}(h:0<=n)(h':n<l.length):Prim.ev (.cell 1 0) [.l (l.map jD),ii n]=some (bb (gt l n)):=im h (dz h h') rfl rfl
theorem ah_{l:List Bool}{n:Int}(h:0<=n)(h':n<l.length):Prim.ev (.a_ 1 0) [.l (l.map jD),ii n]=some (bb (gt l n)):=ll h (dz h h') rfl rfl rfl
theorem T7{l m:List Bool}(h:l.length+m.length<4294967296):Prim.ev (.app false 1) [.l (l.map jD),.l (m.map jD)]=some (.l ((l++m).map jD)):=rW (w:=1) (λ_=>rfl) (.inl rfl) h
theorem T8{m:List Bool}(h:m.length<4294967296):Prim.ev (.app false 1) [.l [],.l (m.map jD)]=some (.l (m.map jD)):=tY (w:=1) (λ_=>rfl) (.inl rfl) h
theorem T9{l m:List Bool}(h:l.length+m.length<4294967296):Prim.ev (.app true 1) [.l (l.map jD),.l (m.map jD)]=some (.l ((l++m).map jD)):=rW (w:=1) (λ_=>rfl) (.inr λ_=>rfl) h
theorem T_{m:List Bool}(h:m.length<4294967296):Prim.ev (.app true 1) [.l [],.l (m.map jD)]=some (.l (m.map jD)):=tY (w:=1) (λ_=>rfl) (.inr λ_=>rfl) h
theorem ah'{l:List Bool}{x:Bool}(h:l.length<4294967295):Prim.ev (.app false 1) [.l (l.map jD),.l ([x].map jD)]=some (.l ((l++[x]).map jD)):=T7 (by simp;omega)
theorem aia{x:Bool}:Prim.ev (.app false 1) [.l [],.l ([x].map jD)]=some (.l ([x].map jD)):=T8 (by simp)
theorem aib{l:List Bool}{x:Bool}(h:l.length<4294967295):Prim.ev (.app true 1) [.l (l.map jD),.l ([x].map jD)]=some (.l ((l++[x]).map jD)):=T9 (by simp;omega)
theorem aic{x:Bool}:Prim.ev (.app true 1) [.l [],.l ([x].map jD)]=some (.l ([x].map jD)):=T_ (by simp)
theorem aid{l:List Bool}{a:Int}(h:0<=a)(h':a<=l.length):Prim.ev (.sub 1 true false) [.l (l.map jD),ii a]=some (.l ((l.drop a.toNat).map jD)):=Bl (enc:=jD) (w:=1) (λ_=>rfl) h h'
theorem aie{l:List Bool}{a:Int}(h:0<=a)(h':a<=l.length):Prim.ev (.sub 1 false true) [.l (l.map jD),ii a]=some (.l ((l.take a.toNat).map jD)):=Bm (enc:=jD) (w:=1) (λ_=>rfl) h h'
theorem aif(x:Bool):Prim.ev (.lit 1 [true]) [bb x]=some (.l ([x].map jD)):=pV (by decide) rfl rfl
theorem aih(x:Bool):Prim.ev (.lit 1 []) [bb x]=some (.l ([x].map jD)):=pV (by decide) rfl rfl
structure bC where
 a:Int
 b:Int
 cost:Int
 ae:Int
 deriving Inhabited
def dC(x:bC):List T:=[ii x.a,ii x.b,ii x.cost,ii x.ae]
def qw:List Ty:=[.i .i64,.i .i64,.i .i64,.i .i64]
def E7(x:bC):Prop:=jh x.a∧jh x.b∧jh x.cost∧jh x.ae
theorem aii(r:List T)(h:cV qw r):∃x,r=dC x∧E7 x:=by
 obtain⟨_,_,rfl,⟨v0,rfl,h0⟩,_,_,rfl,⟨v1,rfl,h1⟩,_,_,rfl,⟨v2,rfl,h2⟩,_,_,rfl,⟨v3,rfl,h3⟩,rfl⟩:=ng h
 exact⟨⟨v0,v1,v2,v3⟩,rfl,h0,h1,h2,h3⟩
theorem KI(x:bC)(h:E7 x):cV qw (dC x):=by
 obtain⟨h0,h1,h2,h3⟩:=h
 exact li ⟨_,_,rfl,⟨_,rfl,h0⟩,_,_,rfl,⟨_,rfl,h1⟩,_,_,rfl,⟨_,rfl,h2⟩,_,_,rfl,⟨_,rfl,h3⟩,rfl⟩
def yG(x:bC):Nat:=0
theorem KJ(x:bC):lj (dC x)=yG x:=by
 simp only[dC,yG,eU,fG,gB,gF,fy,Nat.add_zero,Nat.zero_add]
theorem aij{l:List bC}{n:Int}(h:0<=n)(h':n<l.length):Prim.ev (.cell 4 0) [.l (l.map dC),ii n]=some (ii (gt l n).a):=im h (dz h h') rfl rfl
theorem aik{l:List bC}{n:Int}(h:0<=n)(h':n<l.length):Prim.ev (.a_ 4 0) [.l (l.map dC),ii n]=some (ii (gt l n).a):=ll h (dz h h') rfl rfl rfl
theorem ail{l:List bC}{n:Int}(h:0<=n)(h':n<l.length):Prim.ev (.cell 4 1) [.l (l.map dC),ii n]=some (ii (gt l n).b):=im h (dz h h') rfl rfl
theorem aim{l:List bC}{n:Int}(h:0<=n)(h':n<l.length):Prim.ev (.a_ 4 1) [.l (l.map dC),ii n]=some (ii (gt l n).b):=ll h (dz h h') rfl rfl rfl
theorem ain{l:List bC}{n:Int}(h:0<=n)(h':n<l.length):Prim.ev (.cell 4 2) [.l (l.map dC),ii n]=some (ii (gt l n).cost):=im h (dz h h') rfl rfl
theorem aio{l:List bC}{n:Int}(h:0<=n)(h':n<l.length):Prim.ev (.a_ 4 2) [.l (l.map dC),ii n]=some (ii (gt l n).cost):=ll h (dz h h') rfl rfl rfl
theorem aip{l:List bC}{n:Int}(h:0<=n)(h':n<l.length):Prim.ev (.cell 4 3) [.l (l.map dC),ii n]=some (ii (gt l n).ae):=im h (dz h h') rfl rfl
theorem aiq{l:List bC}{n:Int}(h:0<=n)(h':n<l.length):Prim.ev (.a_ 4 3) [.l (l.map dC),ii n]=some (ii (gt l n).ae):=ll h (dz h h') rfl rfl rfl
theorem T'{l m:List bC}(h:l.length+m.length<4294967296):Prim.ev (.app false 4) [.l (l.map dC),.l (m.map dC)]=some (.l ((l++m).map dC)):=rW (w:=4) (λ_=>rfl) (.inl rfl) h
theorem Ua{m:List bC}(h:m.length<4294967296):Prim.ev (.app false 4) [.l [],.l (m.map dC)]=some (.l (m.map dC)):=tY (w:=4) (λ_=>rfl) (.inl rfl) h
theorem Ub{l m:List bC}(h:l.length+m.length<4294967296):Prim.ev (.app true 4) [.l (l.map dC),.l (m.map dC)]=some (.l ((l++m).map dC)):=rW (w:=4) (λ_=>rfl) (.inr λ_=>rfl) h
theorem Uc{m:List bC}(h:m.length<4294967296):Prim.ev (.app true 4) [.l [],.l (m.map dC)]=some (.l (m.map dC)):=tY (w:=4) (λ_=>rfl) (.inr λ_=>rfl) h
theorem air{l:List bC}{x:bC}(h:l.length<4294967295):Prim.ev (.app false 4) [.l (l.map dC),.l ([x].map dC)]=some (.l ((l++[x]).map dC)):=T' (by simp;omega)
theorem ais{x:bC}:Prim.ev (.app false 4) [.l [],.l ([x].map dC)]=some (.l ([x].map dC)):=Ua (by simp)
theorem ait{l:List bC}{x:bC}(h:l.length<4294967295):Prim.ev (.app true 4) [.l (l.map dC),.l ([x].map dC)]=some (.l ((l++[x]).map dC)):=Ub (by simp;omega)
theorem aiu{x:bC}:Prim.ev (.app true 4) [.l [],.l ([x].map dC)]=some (.l ([x].map dC)):=Uc (by simp)
theorem aiv{l:List bC}{a:Int}(h:0<=a)(h':a<=l.length):Prim.ev (.sub 4 true false) [.l (l.map dC),ii a]=some (.l ((l.drop a.toNat).map dC)):=Bl (enc:=dC) (w:=4) (λ_=>rfl) h h'
theorem aiw{l:List bC}{a:Int}(h:0<=a)(h':a<=l.length):Prim.ev (.sub 4 false true) [.l (l.map dC),ii a]=some (.l ((l.take a.toNat).map dC)):=Bm (enc:=dC) (w:=4) (λ_=>rfl) h h'
theorem aix(v0:Int)(v1:Int)(v2:Int)(v3:Int):Prim.ev (.lit 4 [true,true,true,true]) [ii v0,ii v1,ii v2,ii v3]=some (.l ([(⟨v0,v1,v2,v3⟩:bC)].map dC)):=pV (by decide) rfl rfl
theorem aiy(v0:Int)(v1:Int)(v2:Int)(v3:Int):Prim.ev (.lit 4 []) [ii v0,ii v1,ii v2,ii v3]=some (.l ([(⟨v0,v1,v2,v3⟩:bC)].map dC)):=pV (by decide) rfl rfl
theorem aiz(x:bC):(⟨x.a,x.b,x.cost,x.ae⟩:bC)=x:=rfl
structure b_ where
 owner:Int
 key:Int
 cost:Int
 gU:Bool
 deriving Inhabited
def ef(x:b_):List T:=[ii x.owner,ii x.key,ii x.cost,bb x.gU]
def qy:List Ty:=[.i .i64,.i .i64,.i .i64,.b]
def E8(x:b_):Prop:=jh x.owner∧jh x.key∧jh x.cost
theorem aiA(r:List T)(h:cV qy r):∃x,r=ef x∧E8 x:=by
 obtain⟨_,_,rfl,⟨v0,rfl,h0⟩,_,_,rfl,⟨v1,rfl,h1⟩,_,_,rfl,⟨v2,rfl,h2⟩,_,_,rfl,⟨v3,rfl⟩,rfl⟩:=ng h
 exact⟨⟨v0,v1,v2,v3⟩,rfl,h0,h1,h2⟩
theorem KK(x:b_)(h:E8 x):cV qy (ef x):=by
 obtain⟨h0,h1,h2⟩:=h
 exact li ⟨_,_,rfl,⟨_,rfl,h0⟩,_,_,rfl,⟨_,rfl,h1⟩,_,_,rfl,⟨_,rfl,h2⟩,_,_,rfl,⟨_,rfl⟩,rfl⟩
def yH(x:b_):Nat:=0
theorem KL(x:b_):lj (ef x)=yH x:=by
 simp only[ef,yH,eU,fG,gB,gF,fy,Nat.add_zero,Nat.zero_add]
theorem aiB{l:List b_}{n:Int}(h:0<=n)(h':n<l.length):Prim.ev (.cell 4 0) [.l (l.map ef),ii n]=some (ii (gt l n).owner):=im h (dz h h') rfl rfl
theorem aiC{l:List b_}{n:Int}(h:0<=n)(h':n<l.length):Prim.ev (.a_ 4 0) [.l (l.map ef),ii n]=some (ii (gt l n).owner):=ll h (dz h h') rfl rfl rfl
theorem aiD{l:List b_}{n:Int}(h:0<=n)(h':n<l.length):Prim.ev (.cell 4 1) [.l (l.map ef),ii n]=some (ii (gt l n).key):=im h (dz h h') rfl rfl
theorem aiE{l:List b_}{n:Int}(h:0<=n)(h':n<l.length):Prim.ev (.a_ 4 1) [.l (l.map ef),ii n]=some (ii (gt l n).key):=ll h (dz h h') rfl rfl rfl
theorem aiF{l:List b_}{n:Int}(h:0<=n)(h':n<l.length):Prim.ev (.cell 4 2) [.l (l.map ef),ii n]=some (ii (gt l n).cost):=im h (dz h h') rfl rfl
theorem aiG{l:List b_}{n:Int}(h:0<=n)(h':n<l.length):Prim.ev (.a_ 4 2) [.l (l.map ef),ii n]=some (ii (gt l n).cost):=ll h (dz h h') rfl rfl rfl
theorem aiH{l:List b_}{n:Int}(h:0<=n)(h':n<l.length):Prim.ev (.cell 4 3) [.l (l.map ef),ii n]=some (bb (gt l n).gU):=im h (dz h h') rfl rfl
theorem aiI{l:List b_}{n:Int}(h:0<=n)(h':n<l.length):Prim.ev (.a_ 4 3) [.l (l.map ef),ii n]=some (bb (gt l n).gU):=ll h (dz h h') rfl rfl rfl
theorem Ud{l m:List b_}(h:l.length+m.length<4294967296):Prim.ev (.app false 4) [.l (l.map ef),.l (m.map ef)]=some (.l ((l++m).map ef)):=rW (w:=4) (λ_=>rfl) (.inl rfl) h
theorem Ue{m:List b_}(h:m.length<4294967296):Prim.ev (.app false 4) [.l [],.l (m.map ef)]=some (.l (m.map ef)):=tY (w:=4) (λ_=>rfl) (.inl rfl) h
theorem Uf{l m:List b_}(h:l.length+m.length<4294967296):Prim.ev (.app true 4) [.l (l.map ef),.l (m.map ef)]=some (.l ((l++m).map ef)):=rW (w:=4) (λ_=>rfl) (.inr λ_=>rfl) h
theorem Ug{m:List b_}(h:m.length<4294967296):Prim.ev (.app true 4) [.l [],.l (m.map ef)]=some (.l (m.map ef)):=tY (w:=4) (λ_=>rfl) (.inr λ_=>rfl) h
theorem aiJ{l:List b_}{x:b_}(h:l.length<4294967295):Prim.ev (.app false 4) [.l (l.map ef),.l ([x].map ef)]=some (.l ((l++[x]).map ef)):=Ud (by simp;omega)
theorem aiK{x:b_}:Prim.ev (.app false 4) [.l [],.l ([x].map ef)]=some (.l ([x].map ef)):=Ue (by simp)
theorem aiL{l:List b_}{x:b_}(h:l.length<4294967295):Prim.ev (.app true 4) [.l (l.map ef),.l ([x].map ef)]=some (.l ((l++[x]).map ef)):=Uf (by simp;omega)
theorem aiM{x:b_}:Prim.ev (.app true 4) [.l [],.l ([x].map ef)]=some (.l ([x].map ef)):=Ug (by simp)
theorem aiN{l:List b_}{a:Int}(h:0<=a)(h':a<=l.length):Prim.ev (.sub 4 true false) [.l (l.map ef),ii a]=some (.l ((l.drop a.toNat).map ef)):=Bl (enc:=ef) (w:=4) (λ_=>rfl) h h'
theorem aiO{l:List b_}{a:Int}(h:0<=a)(h':a<=l.length):Prim.ev (.sub 4 false true) [.l (l.map ef),ii a]=some (.l ((l.take a.toNat).map ef)):=Bm (enc:=ef) (w:=4) (λ_=>rfl) h h'
theorem aiP(x:b_):(⟨x.owner,x.key,x.cost,x.gU⟩:b_)=x:=rfl
structure Net where
 n:Int
 aF:List bC
 aN:List b_
 deriving Inhabited
structure cu where
 to:Int
 cost:Int
 deriving Inhabited
def fH(x:cu):List T:=[ii x.to,ii x.cost]
def KM:List Ty:=[.i .i64,.i .i64]
def E9(x:cu):Prop:=jh x.to∧jh x.cost
theorem aiQ(r:List T)(h:cV KM r):∃x,r=fH x∧E9 x:=by
 obtain⟨_,_,rfl,⟨v0,rfl,h0⟩,_,_,rfl,⟨v1,rfl,h1⟩,rfl⟩:=ng h
 exact⟨⟨v0,v1⟩,rfl,h0,h1⟩
theorem aiR(x:cu)(h:E9 x):cV KM (fH x):=by
 obtain⟨h0,h1⟩:=h
 exact li ⟨_,_,rfl,⟨_,rfl,h0⟩,_,_,rfl,⟨_,rfl,h1⟩,rfl⟩
def vS(x:cu):Nat:=0
theorem aiS(x:cu):lj (fH x)=vS x:=by
 simp only[fH,vS,eU,fG,gB,gF,fy,Nat.add_zero,Nat.zero_add]
theorem aiT{l:List cu}{n:Int}(h:0<=n)(h':n<l.length):Prim.ev (.cell 2 0) [.l (l.map fH),ii n]=some (ii (gt l n).to):=im h (dz h h') rfl rfl
theorem aiU{l:List cu}{n:Int}(h:0<=n)(h':n<l.length):Prim.ev (.a_ 2 0) [.l (l.map fH),ii n]=some (ii (gt l n).to):=ll h (dz h h') rfl rfl rfl
theorem aiV{l:List cu}{n:Int}(h:0<=n)(h':n<l.length):Prim.ev (.cell 2 1) [.l (l.map fH),ii n]=some (ii (gt l n).cost):=im h (dz h h') rfl rfl
theorem aiW{l:List cu}{n:Int}(h:0<=n)(h':n<l.length):Prim.ev (.a_ 2 1) [.l (l.map fH),ii n]=some (ii (gt l n).cost):=ll h (dz h h') rfl rfl rfl
theorem Uh{l m:List cu}(h:l.length+m.length<4294967296):Prim.ev (.app false 2) [.l (l.map fH),.l (m.map fH)]=some (.l ((l++m).map fH)):=rW (w:=2) (λ_=>rfl) (.inl rfl) h
theorem Ui{m:List cu}(h:m.length<4294967296):Prim.ev (.app false 2) [.l [],.l (m.map fH)]=some (.l (m.map fH)):=tY (w:=2) (λ_=>rfl) (.inl rfl) h
theorem Uj{l m:List cu}(h:l.length+m.length<4294967296):Prim.ev (.app true 2) [.l (l.map fH),.l (m.map fH)]=some (.l ((l++m).map fH)):=rW (w:=2) (λ_=>rfl) (.inr λ_=>rfl) h
theorem Uk{m:List cu}(h:m.length<4294967296):Prim.ev (.app true 2) [.l [],.l (m.map fH)]=some (.l (m.map fH)):=tY (w:=2) (λ_=>rfl) (.inr λ_=>rfl) h
theorem aiX{l:List cu}{x:cu}(h:l.length<4294967295):Prim.ev (.app false 2) [.l (l.map fH),.l ([x].map fH)]=some (.l ((l++[x]).map fH)):=Uh (by simp;omega)
theorem aiY{x:cu}:Prim.ev (.app false 2) [.l [],.l ([x].map fH)]=some (.l ([x].map fH)):=Ui (by simp)
theorem aiZ{l:List cu}{x:cu}(h:l.length<4294967295):Prim.ev (.app true 2) [.l (l.map fH),.l ([x].map fH)]=some (.l ((l++[x]).map fH)):=Uj (by simp;omega)
theorem ai0{x:cu}:Prim.ev (.app true 2) [.l [],.l ([x].map fH)]=some (.l ([x].map fH)):=Uk (by simp)
theorem ai1{l:List cu}{a:Int}(h:0<=a)(h':a<=l.length):Prim.ev (.sub 2 true false) [.l (l.map fH),ii a]=some (.l ((l.drop a.toNat).map fH)):=Bl (enc:=fH) (w:=2) (λ_=>rfl) h h'
theorem ai2{l:List cu}{a:Int}(h:0<=a)(h':a<=l.length):Prim.ev (.sub 2 false true) [.l (l.map fH),ii a]=some (.l ((l.take a.toNat).map fH)):=Bm (enc:=fH) (w:=2) (λ_=>rfl) h h'
theorem ai3(v0:Int)(v1:Int):Prim.ev (.lit 2 [true,true]) [ii v0,ii v1]=some (.l ([(⟨v0,v1⟩:cu)].map fH)):=pV (by decide) rfl rfl
theorem ai4(v0:Int)(v1:Int):Prim.ev (.lit 2 []) [ii v0,ii v1]=some (.l ([(⟨v0,v1⟩:cu)].map fH)):=pV (by decide) rfl rfl
theorem ai5(x:cu):(⟨x.to,x.cost⟩:cu)=x:=rfl
structure ah where
 ae:Int
 kind:Int
 owner:Int
 key:Int
 seq:Int
 bq:List cu
 cost:Int
 gU:Bool
 deriving Inhabited
def aB(x:ah):List T:=[ii x.ae,ii x.kind,ii x.owner,ii x.key,ii x.seq,.l (x.bq.map fH),ii x.cost,bb x.gU]
def jj:List Ty:=[.i .i64,.i .i64,.i .i64,.i .i64,.i .i64,.sl KM,.i .i64,.b]
def yI(x:ah):Prop:=jh x.ae∧jh x.kind∧jh x.owner∧jh x.key∧jh x.seq∧(x.bq.length<=maxLen∧∀y∈x.bq,E9 y)∧jh x.cost
theorem ai6(r:List T)(h:cV jj r):∃x,r=aB x∧yI x:=by
 obtain⟨_,_,rfl,⟨v0,rfl,h0⟩,_,_,rfl,⟨v1,rfl,h1⟩,_,_,rfl,⟨v2,rfl,h2⟩,_,_,rfl,⟨v3,rfl,h3⟩,_,_,rfl,⟨v4,rfl,h4⟩,t5,_,rfl,q5,_,_,rfl,⟨v6,rfl,h6⟩,_,_,rfl,⟨v7,rfl⟩,rfl⟩:=ng h
 unfold WT at q5
 obtain⟨z5,rfl,m5,g5⟩:=q5
 obtain⟨v5,rfl,h5⟩:=KH aiQ g5
 rw[List.length_map]at m5
 exact⟨⟨v0,v1,v2,v3,v4,v5,v6,v7⟩,rfl,h0,h1,h2,h3,h4,⟨m5,h5⟩,h6⟩
theorem E_(x:ah)(h:yI x):cV jj (aB x):=by
 obtain⟨h0,h1,h2,h3,h4,h5,h6⟩:=h
 exact li ⟨_,_,rfl,⟨_,rfl,h0⟩,_,_,rfl,⟨_,rfl,h1⟩,_,_,rfl,⟨_,rfl,h2⟩,_,_,rfl,⟨_,rfl,h3⟩,_,_,rfl,⟨_,rfl,h4⟩,_,_,rfl,rV (by rw[List.length_map];exact h5.1) (rX aiR h5.2),_,_,rfl,⟨_,rfl,h6⟩,_,_,rfl,⟨_,rfl⟩,rfl⟩
def zw(x:ah):Nat:=eJ vS x.bq
theorem E'(x:ah):lj (aB x)=zw x:=by
 simp only[aB,zw,eU,fG,gB,gF,fy,Nat.add_zero,Nat.zero_add,rY aiS]
theorem ai7{l:List ah}{n:Int}(h:0<=n)(h':n<l.length):Prim.ev (.cell 8 0) [.l (l.map aB),ii n]=some (ii (gt l n).ae):=im h (dz h h') rfl rfl
theorem ai8{l:List ah}{n:Int}(h:0<=n)(h':n<l.length):Prim.ev (.a_ 8 0) [.l (l.map aB),ii n]=some (ii (gt l n).ae):=ll h (dz h h') rfl rfl rfl
theorem ai9{l:List ah}{n:Int}(h:0<=n)(h':n<l.length):Prim.ev (.cell 8 1) [.l (l.map aB),ii n]=some (ii (gt l n).kind):=im h (dz h h') rfl rfl
theorem ai_{l:List ah}{n:Int}(h:0<=n)(h':n<l.length):Prim.ev (.a_ 8 1) [.l (l.map aB),ii n]=some (ii (gt l n).kind):=ll h (dz h h') rfl rfl rfl
theorem ai'{l:List ah}{n:Int}(h:0<=n)(h':n<l.length):Prim.ev (.cell 8 2) [.l (l.map aB),ii n]=some (ii (gt l n).owner):=im h (dz h h') rfl rfl
theorem aja{l:List ah}{n:Int}(h:0<=n)(h':n<l.length):Prim.ev (.a_ 8 2) [.l (l.map aB),ii n]=some (ii (gt l n).owner):=ll h (dz h h') rfl rfl rfl
theorem ajb{l:List ah}{n:Int}(h:0<=n)(h':n<l.length):Prim.ev (.cell 8 3) [.l (l.map aB),ii n]=some (ii (gt l n).key):=im h (dz h h') rfl rfl
theorem ajc{l:List ah}{n:Int}(h:0<=n)(h':n<l.length):Prim.ev (.a_ 8 3) [.l (l.map aB),ii n]=some (ii (gt l n).key):=ll h (dz h h') rfl rfl rfl
theorem ajd{l:List ah}{n:Int}(h:0<=n)(h':n<l.length):Prim.ev (.cell 8 4) [.l (l.map aB),ii n]=some (ii (gt l n).seq):=im h (dz h h') rfl rfl
theorem aje{l:List ah}{n:Int}(h:0<=n)(h':n<l.length):Prim.ev (.a_ 8 4) [.l (l.map aB),ii n]=some (ii (gt l n).seq):=ll h (dz h h') rfl rfl rfl
theorem ajf{l:List ah}{n:Int}(h:0<=n)(h':n<l.length):Prim.ev (.cell 8 5) [.l (l.map aB),ii n]=some (.l ((gt l n).bq.map fH)):=im h (dz h h') rfl rfl
theorem ajg{l:List ah}{n:Int}(h:0<=n)(h':n<l.length):Prim.ev (.dJ 8 5) [.l (l.map aB),ii n]=some (.l ((gt l n).bq.map fH)):=yD h (dz h h') rfl rfl
theorem ajh{l:List ah}{n:Int}(h:0<=n)(h':n<l.length):Prim.ev (.cell 8 6) [.l (l.map aB),ii n]=some (ii (gt l n).cost):=im h (dz h h') rfl rfl
theorem aji{l:List ah}{n:Int}(h:0<=n)(h':n<l.length):Prim.ev (.a_ 8 6) [.l (l.map aB),ii n]=some (ii (gt l n).cost):=ll h (dz h h') rfl rfl rfl
theorem ajj{l:List ah}{n:Int}(h:0<=n)(h':n<l.length):Prim.ev (.cell 8 7) [.l (l.map aB),ii n]=some (bb (gt l n).gU):=im h (dz h h') rfl rfl
theorem ajk{l:List ah}{n:Int}(h:0<=n)(h':n<l.length):Prim.ev (.a_ 8 7) [.l (l.map aB),ii n]=some (bb (gt l n).gU):=ll h (dz h h') rfl rfl rfl
theorem Ul{l m:List ah}(h:l.length+m.length<4294967296):Prim.ev (.app false 8) [.l (l.map aB),.l (m.map aB)]=some (.l ((l++m).map aB)):=rW (w:=8) (λ_=>rfl) (.inl rfl) h
theorem Um{m:List ah}(h:m.length<4294967296):Prim.ev (.app false 8) [.l [],.l (m.map aB)]=some (.l (m.map aB)):=tY (w:=8) (λ_=>rfl) (.inl rfl) h
theorem ajl{l:List ah}{x:ah}(h:l.length<4294967295):Prim.ev (.app false 8) [.l (l.map aB),.l ([x].map aB)]=some (.l ((l++[x]).map aB)):=Ul (by simp;omega)
theorem ajm{x:ah}:Prim.ev (.app false 8) [.l [],.l ([x].map aB)]=some (.l ([x].map aB)):=Um (by simp)
theorem ajn{l:List ah}{a:Int}(h:0<=a)(h':a<=l.length):Prim.ev (.sub 8 true false) [.l (l.map aB),ii a]=some (.l ((l.drop a.toNat).map aB)):=Bl (enc:=aB) (w:=8) (λ_=>rfl) h h'
theorem ajo{l:List ah}{a:Int}(h:0<=a)(h':a<=l.length):Prim.ev (.sub 8 false true) [.l (l.map aB),ii a]=some (.l ((l.take a.toNat).map aB)):=Bm (enc:=aB) (w:=8) (λ_=>rfl) h h'
theorem Un(v0:Int)(v1:Int)(v2:Int)(v3:Int)(v4:Int)(v5:List cu)(v6:Int)(v7:Bool):Prim.ev (.lit 8 [true,true,true,true,true,false,true,true]) [ii v0,ii v1,ii v2,ii v3,ii v4,.l (v5.map fH),ii v6,bb v7]=some (.l ([(⟨v0,v1,v2,v3,v4,v5,v6,v7⟩:ah)].map aB)):=pV (by decide) rfl rfl
theorem ajp(v0:Int)(v1:Int)(v2:Int)(v3:Int)(v4:Int)(v5:List cu)(v6:Int)(v7:Bool):Prim.ev (.lit 8 []) [ii v0,ii v1,ii v2,ii v3,ii v4,.l (v5.map fH),ii v6,bb v7]=some (.l ([(⟨v0,v1,v2,v3,v4,v5,v6,v7⟩:ah)].map aB)):=pV (by decide) rfl rfl
theorem ajq(x:ah):(⟨x.ae,x.kind,x.owner,x.key,x.seq,x.bq,x.cost,x.gU⟩:ah)=x:=rfl
structure Way where
 to:Int
 cost:Int
 aG:List Int
 deriving Inhabited
def aZ(x:Way):List T:=[ii x.to,ii x.cost,.l (x.aG.map aD)]
theorem ajr{l:List Way}{n:Int}(h:0<=n)(h':n<l.length):Prim.ev (.cell 3 0) [.l (l.map aZ),ii n]=some (ii (gt l n).to):=im h (dz h h') rfl rfl
theorem ajs{l:List Way}{n:Int}(h:0<=n)(h':n<l.length):Prim.ev (.a_ 3 0) [.l (l.map aZ),ii n]=some (ii (gt l n).to):=ll h (dz h h') rfl rfl rfl
theorem ajt{l:List Way}{n:Int}(h:0<=n)(h':n<l.length):Prim.ev (.cell 3 1) [.l (l.map aZ),ii n]=some (ii (gt l n).cost):=im h (dz h h') rfl rfl
theorem aju{l:List Way}{n:Int}(h:0<=n)(h':n<l.length):Prim.ev (.a_ 3 1) [.l (l.map aZ),ii n]=some (ii (gt l n).cost):=ll h (dz h h') rfl rfl rfl
theorem ajv{l:List Way}{n:Int}(h:0<=n)(h':n<l.length):Prim.ev (.cell 3 2) [.l (l.map aZ),ii n]=some (.l ((gt l n).aG.map aD)):=im h (dz h h') rfl rfl
theorem ajw{l:List Way}{n:Int}(h:0<=n)(h':n<l.length):Prim.ev (.dJ 3 2) [.l (l.map aZ),ii n]=some (.l ((gt l n).aG.map aD)):=yD h (dz h h') rfl rfl
theorem HY{l m:List Way}(h:l.length+m.length<4294967296):Prim.ev (.app false 3) [.l (l.map aZ),.l (m.map aZ)]=some (.l ((l++m).map aZ)):=rW (w:=3) (λ_=>rfl) (.inl rfl) h
theorem HZ{m:List Way}(h:m.length<4294967296):Prim.ev (.app false 3) [.l [],.l (m.map aZ)]=some (.l (m.map aZ)):=tY (w:=3) (λ_=>rfl) (.inl rfl) h
theorem KN{l:List Way}{x:Way}(h:l.length<4294967295):Prim.ev (.app false 3) [.l (l.map aZ),.l ([x].map aZ)]=some (.l ((l++[x]).map aZ)):=HY (by simp;omega)
theorem ajx{x:Way}:Prim.ev (.app false 3) [.l [],.l ([x].map aZ)]=some (.l ([x].map aZ)):=HZ (by simp)
theorem ajy{l:List Way}{a:Int}(h:0<=a)(h':a<=l.length):Prim.ev (.sub 3 true false) [.l (l.map aZ),ii a]=some (.l ((l.drop a.toNat).map aZ)):=Bl (enc:=aZ) (w:=3) (λ_=>rfl) h h'
theorem ajz{l:List Way}{a:Int}(h:0<=a)(h':a<=l.length):Prim.ev (.sub 3 false true) [.l (l.map aZ),ii a]=some (.l ((l.take a.toNat).map aZ)):=Bm (enc:=aZ) (w:=3) (λ_=>rfl) h h'
theorem ajA(v0:Int)(v1:Int)(v2:List Int):Prim.ev (.lit 3 [true,true,false]) [ii v0,ii v1,.l (v2.map aD)]=some (.l ([(⟨v0,v1,v2⟩:Way)].map aZ)):=pV (by decide) rfl rfl
theorem ajB(v0:Int)(v1:Int)(v2:List Int):Prim.ev (.lit 3 []) [ii v0,ii v1,.l (v2.map aD)]=some (.l ([(⟨v0,v1,v2⟩:Way)].map aZ)):=pV (by decide) rfl rfl
theorem ajC(x:Way):(⟨x.to,x.cost,x.aG⟩:Way)=x:=rfl
structure awC where
 Uo:Bool
 to:Int
 kind:Int
 cost:Int
 gU:Int
 aG:List Int
 deriving Inhabited
structure Self where
 id:Int
 bf:Int
 net:Net
 heard:List Int
 store:List ah
 deriving Inhabited
def ie(x:Self):List T:=[ii x.id,ii x.bf,ii x.net.n,.l (x.net.aF.map dC),.l (x.net.aN.map ef),.l (x.heard.map aD),.l (x.store.map aB)]
theorem ajD{l:List Self}{n:Int}(h:0<=n)(h':n<l.length):Prim.ev (.cell 7 0) [.l (l.map ie),ii n]=some (ii (gt l n).id):=im h (dz h h') rfl rfl
theorem ajE{l:List Self}{n:Int}(h:0<=n)(h':n<l.length):Prim.ev (.a_ 7 0) [.l (l.map ie),ii n]=some (ii (gt l n).id):=ll h (dz h h') rfl rfl rfl
theorem ajF{l:List Self}{n:Int}(h:0<=n)(h':n<l.length):Prim.ev (.cell 7 1) [.l (l.map ie),ii n]=some (ii (gt l n).bf):=im h (dz h h') rfl rfl
theorem ajG{l:List Self}{n:Int}(h:0<=n)(h':n<l.length):Prim.ev (.a_ 7 1) [.l (l.map ie),ii n]=some (ii (gt l n).bf):=ll h (dz h h') rfl rfl rfl
theorem ajH{l:List Self}{n:Int}(h:0<=n)(h':n<l.length):Prim.ev (.cell 7 2) [.l (l.map ie),ii n]=some (ii (gt l n).net.n):=im h (dz h h') rfl rfl
theorem ajI{l:List Self}{n:Int}(h:0<=n)(h':n<l.length):Prim.ev (.a_ 7 2) [.l (l.map ie),ii n]=some (ii (gt l n).net.n):=ll h (dz h h') rfl rfl rfl
theorem ajJ{l:List Self}{n:Int}(h:0<=n)(h':n<l.length):Prim.ev (.cell 7 3) [.l (l.map ie),ii n]=some (.l ((gt l n).net.aF.map dC)):=im h (dz h h') rfl rfl
theorem ajK{l:List Self}{n:Int}(h:0<=n)(h':n<l.length):Prim.ev (.dJ 7 3) [.l (l.map ie),ii n]=some (.l ((gt l n).net.aF.map dC)):=yD h (dz h h') rfl rfl
theorem ajL{l:List Self}{n:Int}(h:0<=n)(h':n<l.length):Prim.ev (.cell 7 4) [.l (l.map ie),ii n]=some (.l ((gt l n).net.aN.map ef)):=im h (dz h h') rfl rfl
theorem ajM{l:List Self}{n:Int}(h:0<=n)(h':n<l.length):Prim.ev (.dJ 7 4) [.l (l.map ie),ii n]=some (.l ((gt l n).net.aN.map ef)):=yD h (dz h h') rfl rfl
theorem ajN{l:List Self}{n:Int}(h:0<=n)(h':n<l.length):Prim.ev (.cell 7 5) [.l (l.map ie),ii n]=some (.l ((gt l n).heard.map aD)):=im h (dz h h') rfl rfl
theorem ajO{l:List Self}{n:Int}(h:0<=n)(h':n<l.length):Prim.ev (.dJ 7 5) [.l (l.map ie),ii n]=some (.l ((gt l n).heard.map aD)):=yD h (dz h h') rfl rfl
theorem ajP{l:List Self}{n:Int}(h:0<=n)(h':n<l.length):Prim.ev (.cell 7 6) [.l (l.map ie),ii n]=some (.l ((gt l n).store.map aB)):=im h (dz h h') rfl rfl
theorem ajQ{l:List Self}{n:Int}(h:0<=n)(h':n<l.length):Prim.ev (.dJ 7 6) [.l (l.map ie),ii n]=some (.l ((gt l n).store.map aB)):=yD h (dz h h') rfl rfl
theorem Up{l m:List Self}(h:l.length+m.length<4294967296):Prim.ev (.app false 7) [.l (l.map ie),.l (m.map ie)]=some (.l ((l++m).map ie)):=rW (w:=7) (λ_=>rfl) (.inl rfl) h
theorem Uq{m:List Self}(h:m.length<4294967296):Prim.ev (.app false 7) [.l [],.l (m.map ie)]=some (.l (m.map ie)):=tY (w:=7) (λ_=>rfl) (.inl rfl) h
theorem ajR{l:List Self}{x:Self}(h:l.length<4294967295):Prim.ev (.app false 7) [.l (l.map ie),.l ([x].map ie)]=some (.l ((l++[x]).map ie)):=Up (by simp;omega)
theorem ajS{x:Self}:Prim.ev (.app false 7) [.l [],.l ([x].map ie)]=some (.l ([x].map ie)):=Uq (by simp)
theorem ajT{l:List Self}{a:Int}(h:0<=a)(h':a<=l.length):Prim.ev (.sub 7 true false) [.l (l.map ie),ii a]=some (.l ((l.drop a.toNat).map ie)):=Bl (enc:=ie) (w:=7) (λ_=>rfl) h h'
theorem ajU{l:List Self}{a:Int}(h:0<=a)(h':a<=l.length):Prim.ev (.sub 7 false true) [.l (l.map ie),ii a]=some (.l ((l.take a.toNat).map ie)):=Bm (enc:=ie) (w:=7) (λ_=>rfl) h h'
theorem ajV(v0:Int)(v1:Int)(v2:Int)(v3:List bC)(v4:List b_)(v5:List Int)(v6:List ah):Prim.ev (.lit 7 [true,true,true,false,false,false,false]) [ii v0,ii v1,ii v2,.l (v3.map dC),.l (v4.map ef),.l (v5.map aD),.l (v6.map aB)]=some (.l ([(⟨v0,v1,⟨v2,v3,v4⟩,v5,v6⟩:Self)].map ie)):=pV (by decide) rfl rfl
theorem ajW(v0:Int)(v1:Int)(v2:Int)(v3:List bC)(v4:List b_)(v5:List Int)(v6:List ah):Prim.ev (.lit 7 []) [ii v0,ii v1,ii v2,.l (v3.map dC),.l (v4.map ef),.l (v5.map aD),.l (v6.map aB)]=some (.l ([(⟨v0,v1,⟨v2,v3,v4⟩,v5,v6⟩:Self)].map ie)):=pV (by decide) rfl rfl
theorem ajX(x:Self):(⟨x.id,x.bf,⟨x.net.n,x.net.aF,x.net.aN⟩,x.heard,x.store⟩:Self)=x:=rfl
structure c_ where
 node:Int
 ae:Int
 left:Int
 both:Bool
 deriving Inhabited
def bS(x:c_):List T:=[ii x.node,ii x.ae,ii x.left,bb x.both]
def lm:List Ty:=[.i .i64,.i .i64,.i .i64,.b]
def Bo(x:c_):Prop:=jh x.node∧jh x.ae∧jh x.left
theorem ajY(r:List T)(h:cV lm r):∃x,r=bS x∧Bo x:=by
 obtain⟨_,_,rfl,⟨v0,rfl,h0⟩,_,_,rfl,⟨v1,rfl,h1⟩,_,_,rfl,⟨v2,rfl,h2⟩,_,_,rfl,⟨v3,rfl⟩,rfl⟩:=ng h
 exact⟨⟨v0,v1,v2,v3⟩,rfl,h0,h1,h2⟩
theorem KO(x:c_)(h:Bo x):cV lm (bS x):=by
 obtain⟨h0,h1,h2⟩:=h
 exact li ⟨_,_,rfl,⟨_,rfl,h0⟩,_,_,rfl,⟨_,rfl,h1⟩,_,_,rfl,⟨_,rfl,h2⟩,_,_,rfl,⟨_,rfl⟩,rfl⟩
def yJ(x:c_):Nat:=0
theorem KQ(x:c_):lj (bS x)=yJ x:=by
 simp only[bS,yJ,eU,fG,gB,gF,fy,Nat.add_zero,Nat.zero_add]
theorem ajZ{l:List c_}{n:Int}(h:0<=n)(h':n<l.length):Prim.ev (.cell 4 0) [.l (l.map bS),ii n]=some (ii (gt l n).node):=im h (dz h h') rfl rfl
theorem aj0{l:List c_}{n:Int}(h:0<=n)(h':n<l.length):Prim.ev (.a_ 4 0) [.l (l.map bS),ii n]=some (ii (gt l n).node):=ll h (dz h h') rfl rfl rfl
theorem aj1{l:List c_}{n:Int}(h:0<=n)(h':n<l.length):Prim.ev (.cell 4 1) [.l (l.map bS),ii n]=some (ii (gt l n).ae):=im h (dz h h') rfl rfl
theorem aj2{l:List c_}{n:Int}(h:0<=n)(h':n<l.length):Prim.ev (.a_ 4 1) [.l (l.map bS),ii n]=some (ii (gt l n).ae):=ll h (dz h h') rfl rfl rfl
theorem aj3{l:List c_}{n:Int}(h:0<=n)(h':n<l.length):Prim.ev (.cell 4 2) [.l (l.map bS),ii n]=some (ii (gt l n).left):=im h (dz h h') rfl rfl
theorem aj4{l:List c_}{n:Int}(h:0<=n)(h':n<l.length):Prim.ev (.a_ 4 2) [.l (l.map bS),ii n]=some (ii (gt l n).left):=ll h (dz h h') rfl rfl rfl
theorem aj5{l:List c_}{n:Int}(h:0<=n)(h':n<l.length):Prim.ev (.cell 4 3) [.l (l.map bS),ii n]=some (bb (gt l n).both):=im h (dz h h') rfl rfl
theorem aj6{l:List c_}{n:Int}(h:0<=n)(h':n<l.length):Prim.ev (.a_ 4 3) [.l (l.map bS),ii n]=some (bb (gt l n).both):=ll h (dz h h') rfl rfl rfl
theorem Ur{l m:List c_}(h:l.length+m.length<4294967296):Prim.ev (.app false 4) [.l (l.map bS),.l (m.map bS)]=some (.l ((l++m).map bS)):=rW (w:=4) (λ_=>rfl) (.inl rfl) h
theorem Us{m:List c_}(h:m.length<4294967296):Prim.ev (.app false 4) [.l [],.l (m.map bS)]=some (.l (m.map bS)):=tY (w:=4) (λ_=>rfl) (.inl rfl) h
theorem Ut{l m:List c_}(h:l.length+m.length<4294967296):Prim.ev (.app true 4) [.l (l.map bS),.l (m.map bS)]=some (.l ((l++m).map bS)):=rW (w:=4) (λ_=>rfl) (.inr λ_=>rfl) h
theorem Uu{m:List c_}(h:m.length<4294967296):Prim.ev (.app true 4) [.l [],.l (m.map bS)]=some (.l (m.map bS)):=tY (w:=4) (λ_=>rfl) (.inr λ_=>rfl) h
theorem aj7{l:List c_}{x:c_}(h:l.length<4294967295):Prim.ev (.app false 4) [.l (l.map bS),.l ([x].map bS)]=some (.l ((l++[x]).map bS)):=Ur (by simp;omega)
theorem aj8{x:c_}:Prim.ev (.app false 4) [.l [],.l ([x].map bS)]=some (.l ([x].map bS)):=Us (by simp)
theorem aj9{l:List c_}{x:c_}(h:l.length<4294967295):Prim.ev (.app true 4) [.l (l.map bS),.l ([x].map bS)]=some (.l ((l++[x]).map bS)):=Ut (by simp;omega)
theorem aj_{x:c_}:Prim.ev (.app true 4) [.l [],.l ([x].map bS)]=some (.l ([x].map bS)):=Uu (by simp)
theorem aj'{l:List c_}{a:Int}(h:0<=a)(h':a<=l.length):Prim.ev (.sub 4 true false) [.l (l.map bS),ii a]=some (.l ((l.drop a.toNat).map bS)):=Bl (enc:=bS) (w:=4) (λ_=>rfl) h h'
theorem aka{l:List c_}{a:Int}(h:0<=a)(h':a<=l.length):Prim.ev (.sub 4 false true) [.l (l.map bS),ii a]=some (.l ((l.take a.toNat).map bS)):=Bm (enc:=bS) (w:=4) (λ_=>rfl) h h'
theorem akb(v0:Int)(v1:Int)(v2:Int)(v3:Bool):Prim.ev (.lit 4 [true,true,true,true]) [ii v0,ii v1,ii v2,bb v3]=some (.l ([(⟨v0,v1,v2,v3⟩:c_)].map bS)):=pV (by decide) rfl rfl
theorem akc(v0:Int)(v1:Int)(v2:Int)(v3:Bool):Prim.ev (.lit 4 []) [ii v0,ii v1,ii v2,bb v3]=some (.l ([(⟨v0,v1,v2,v3⟩:c_)].map bS)):=pV (by decide) rfl rfl
theorem akd(x:c_):(⟨x.node,x.ae,x.left,x.both⟩:c_)=x:=rfl
structure Node where
 self:Self
 dD:List c_
 deriving Inhabited
def iQ(x:Node):List T:=[ii x.self.id,ii x.self.bf,ii x.self.net.n,.l (x.self.net.aF.map dC),.l (x.self.net.aN.map ef),.l (x.self.heard.map aD),.l (x.self.store.map aB),.l (x.dD.map bS)]
def Fa:List Ty:=[.i .i64,.i .i64,.i .i64,.sl qw,.sl qy,.sl ji,.sl jj,.sl lm]
def ua(x:Node):Prop:=jh x.self.id∧jh x.self.bf∧jh x.self.net.n∧(x.self.net.aF.length<=maxLen∧∀y∈x.self.net.aF,E7 y)∧(x.self.net.aN.length<=maxLen∧∀y∈x.self.net.aN,E8 y)∧(x.self.heard.length<=maxLen∧∀y∈x.self.heard,tZ y)∧(x.self.store.length<=maxLen∧∀y∈x.self.store,yI y)∧(x.dD.length<=maxLen∧∀y∈x.dD,Bo y)
theorem ake(r:List T)(h:cV Fa r):∃x,r=iQ x∧ua x:=by
 obtain⟨_,_,rfl,⟨v0,rfl,h0⟩,_,_,rfl,⟨v1,rfl,h1⟩,_,_,rfl,⟨v2,rfl,h2⟩,t3,_,rfl,q3,t4,_,rfl,q4,t5,_,rfl,q5,t6,_,rfl,q6,t7,_,rfl,q7,rfl⟩:=ng h
 unfold WT at q3
 obtain⟨z3,rfl,m3,g3⟩:=q3
 obtain⟨v3,rfl,h3⟩:=KH aii g3
 rw[List.length_map]at m3
 unfold WT at q4
 obtain⟨z4,rfl,m4,g4⟩:=q4
 obtain⟨v4,rfl,h4⟩:=KH aiA g4
 rw[List.length_map]at m4
 unfold WT at q5
 obtain⟨z5,rfl,m5,g5⟩:=q5
 obtain⟨v5,rfl,h5⟩:=KH ahZ g5
 rw[List.length_map]at m5
 unfold WT at q6
 obtain⟨z6,rfl,m6,g6⟩:=q6
 obtain⟨v6,rfl,h6⟩:=KH ai6 g6
 rw[List.length_map]at m6
 unfold WT at q7
 obtain⟨z7,rfl,m7,g7⟩:=q7
 obtain⟨v7,rfl,h7⟩:=KH ajY g7
 rw[List.length_map]at m7
 exact⟨⟨⟨v0,v1,⟨v2,v3,v4⟩,v5,v6⟩,v7⟩,rfl,h0,h1,h2,⟨m3,h3⟩,⟨m4,h4⟩,⟨m5,h5⟩,⟨m6,h6⟩,⟨m7,h7⟩⟩
theorem akf(x:Node)(h:ua x):cV Fa (iQ x):=by
 obtain⟨h0,h1,h2,h3,h4,h5,h6,h7⟩:=h
 exact li ⟨_,_,rfl,⟨_,rfl,h0⟩,_,_,rfl,⟨_,rfl,h1⟩,_,_,rfl,⟨_,rfl,h2⟩,_,_,rfl,rV (by rw[List.length_map];exact h3.1) (rX KI h3.2),_,_,rfl,rV (by rw[List.length_map];exact h4.1) (rX KK h4.2),_,_,rfl,rV (by rw[List.length_map];exact h5.1) (rX E5 h5.2),_,_,rfl,rV (by rw[List.length_map];exact h6.1) (rX E_ h6.2),_,_,rfl,rV (by rw[List.length_map];exact h7.1) (rX KO h7.2),rfl⟩
def zx(x:Node):Nat:=eJ yG x.self.net.aF+eJ yH x.self.net.aN+eJ t_ x.self.heard+eJ zw x.self.store+eJ yJ x.dD
theorem wW(x:Node):lj (iQ x)=zx x:=by
 simp only[iQ,zx,eU,fG,gB,gF,fy,Nat.add_zero,Nat.zero_add,rY KQ,rY E6,rY KJ,rY E',rY KL]
 try omega
theorem akg{l:List Node}{n:Int}(h:0<=n)(h':n<l.length):Prim.ev (.cell 8 0) [.l (l.map iQ),ii n]=some (ii (gt l n).self.id):=im h (dz h h') rfl rfl
theorem akh{l:List Node}{n:Int}(h:0<=n)(h':n<l.length):Prim.ev (.a_ 8 0) [.l (l.map iQ),ii n]=some (ii (gt l n).self.id):=ll h (dz h h') rfl rfl rfl
theorem aki{l:List Node}{n:Int}(h:0<=n)(h':n<l.length):Prim.ev (.cell 8 1) [.l (l.map iQ),ii n]=some (ii (gt l n).self.bf):=im h (dz h h') rfl rfl
theorem akj{l:List Node}{n:Int}(h:0<=n)(h':n<l.length):Prim.ev (.a_ 8 1) [.l (l.map iQ),ii n]=some (ii (gt l n).self.bf):=ll h (dz h h') rfl rfl rfl
theorem akk{l:List Node}{n:Int}(h:0<=n)(h':n<l.length):Prim.ev (.cell 8 2) [.l (l.map iQ),ii n]=some (ii (gt l n).self.net.n):=im h (dz h h') rfl rfl
theorem akl{l:List Node}{n:Int}(h:0<=n)(h':n<l.length):Prim.ev (.a_ 8 2) [.l (l.map iQ),ii n]=some (ii (gt l n).self.net.n):=ll h (dz h h') rfl rfl rfl
theorem akm{l:List Node}{n:Int}(h:0<=n)(h':n<l.length):Prim.ev (.cell 8 3) [.l (l.map iQ),ii n]=some (.l ((gt l n).self.net.aF.map dC)):=im h (dz h h') rfl rfl
theorem akn{l:List Node}{n:Int}(h:0<=n)(h':n<l.length):Prim.ev (.dJ 8 3) [.l (l.map iQ),ii n]=some (.l ((gt l n).self.net.aF.map dC)):=yD h (dz h h') rfl rfl
theorem ako{l:List Node}{n:Int}(h:0<=n)(h':n<l.length):Prim.ev (.cell 8 4) [.l (l.map iQ),ii n]=some (.l ((gt l n).self.net.aN.map ef)):=im h (dz h h') rfl rfl
theorem akp{l:List Node}{n:Int}(h:0<=n)(h':n<l.length):Prim.ev (.dJ 8 4) [.l (l.map iQ),ii n]=some (.l ((gt l n).self.net.aN.map ef)):=yD h (dz h h') rfl rfl
theorem akq{l:List Node}{n:Int}(h:0<=n)(h':n<l.length):Prim.ev (.cell 8 5) [.l (l.map iQ),ii n]=some (.l ((gt l n).self.heard.map aD)):=im h (dz h h') rfl rfl
theorem akr{l:List Node}{n:Int}(h:0<=n)(h':n<l.length):Prim.ev (.dJ 8 5) [.l (l.map iQ),ii n]=some (.l ((gt l n).self.heard.map aD)):=yD h (dz h h') rfl rfl
theorem aks{l:List Node}{n:Int}(h:0<=n)(h':n<l.length):Prim.ev (.cell 8 6) [.l (l.map iQ),ii n]=some (.l ((gt l n).self.store.map aB)):=im h (dz h h') rfl rfl
theorem akt{l:List Node}{n:Int}(h:0<=n)(h':n<l.length):Prim.ev (.dJ 8 6) [.l (l.map iQ),ii n]=some (.l ((gt l n).self.store.map aB)):=yD h (dz h h') rfl rfl
theorem aku{l:List Node}{n:Int}(h:0<=n)(h':n<l.length):Prim.ev (.cell 8 7) [.l (l.map iQ),ii n]=some (.l ((gt l n).dD.map bS)):=im h (dz h h') rfl rfl
theorem akv{l:List Node}{n:Int}(h:0<=n)(h':n<l.length):Prim.ev (.dJ 8 7) [.l (l.map iQ),ii n]=some (.l ((gt l n).dD.map bS)):=yD h (dz h h') rfl rfl
theorem Uv{l m:List Node}(h:l.length+m.length<4294967296):Prim.ev (.app false 8) [.l (l.map iQ),.l (m.map iQ)]=some (.l ((l++m).map iQ)):=rW (w:=8) (λ_=>rfl) (.inl rfl) h
theorem Uw{m:List Node}(h:m.length<4294967296):Prim.ev (.app false 8) [.l [],.l (m.map iQ)]=some (.l (m.map iQ)):=tY (w:=8) (λ_=>rfl) (.inl rfl) h
theorem akw{l:List Node}{x:Node}(h:l.length<4294967295):Prim.ev (.app false 8) [.l (l.map iQ),.l ([x].map iQ)]=some (.l ((l++[x]).map iQ)):=Uv (by simp;omega)
theorem akx{x:Node}:Prim.ev (.app false 8) [.l [],.l ([x].map iQ)]=some (.l ([x].map iQ)):=Uw (by simp)
theorem aky{l:List Node}{a:Int}(h:0<=a)(h':a<=l.length):Prim.ev (.sub 8 true false) [.l (l.map iQ),ii a]=some (.l ((l.drop a.toNat).map iQ)):=Bl (enc:=iQ) (w:=8) (λ_=>rfl) h h'
theorem akz{l:List Node}{a:Int}(h:0<=a)(h':a<=l.length):Prim.ev (.sub 8 false true) [.l (l.map iQ),ii a]=some (.l ((l.take a.toNat).map iQ)):=Bm (enc:=iQ) (w:=8) (λ_=>rfl) h h'
theorem akA(v0:Int)(v1:Int)(v2:Int)(v3:List bC)(v4:List b_)(v5:List Int)(v6:List ah)(v7:List c_):Prim.ev (.lit 8 [true,true,true,false,false,false,false,false]) [ii v0,ii v1,ii v2,.l (v3.map dC),.l (v4.map ef),.l (v5.map aD),.l (v6.map aB),.l (v7.map bS)]=some (.l ([(⟨⟨v0,v1,⟨v2,v3,v4⟩,v5,v6⟩,v7⟩:Node)].map iQ)):=pV (by decide) rfl rfl
theorem akB(v0:Int)(v1:Int)(v2:Int)(v3:List bC)(v4:List b_)(v5:List Int)(v6:List ah)(v7:List c_):Prim.ev (.lit 8 []) [ii v0,ii v1,ii v2,.l (v3.map dC),.l (v4.map ef),.l (v5.map aD),.l (v6.map aB),.l (v7.map bS)]=some (.l ([(⟨⟨v0,v1,⟨v2,v3,v4⟩,v5,v6⟩,v7⟩:Node)].map iQ)):=pV (by decide) rfl rfl
theorem akC(x:Node):(⟨⟨x.self.id,x.self.bf,⟨x.self.net.n,x.self.net.aF,x.self.net.aN⟩,x.self.heard,x.self.store⟩,x.dD⟩:Node)=x:=rfl
structure bc where
 kind:Int
 vT:Int
 to:Int
 ae:Int
 heard:List Int
 list:List ah
 deriving Inhabited
def gd(x:bc):List T:=[ii x.kind,ii x.vT,ii x.to,ii x.ae,.l (x.heard.map aD),.l (x.list.map aB)]
def vU:List Ty:=[.i .i64,.i .i64,.i .i64,.i .i64,.sl ji,.sl jj]
def yK(x:bc):Prop:=jh x.kind∧jh x.vT∧jh x.to∧jh x.ae∧(x.heard.length<=maxLen∧∀y∈x.heard,tZ y)∧(x.list.length<=maxLen∧∀y∈x.list,yI y)
theorem akD(x:bc)(h:yK x):cV vU (gd x):=by
 obtain⟨h0,h1,h2,h3,h4,h5⟩:=h
 exact li ⟨_,_,rfl,⟨_,rfl,h0⟩,_,_,rfl,⟨_,rfl,h1⟩,_,_,rfl,⟨_,rfl,h2⟩,_,_,rfl,⟨_,rfl,h3⟩,_,_,rfl,rV (by rw[List.length_map];exact h4.1) (rX E5 h4.2),_,_,rfl,rV (by rw[List.length_map];exact h5.1) (rX E_ h5.2),rfl⟩
def Fb(x:bc):Nat:=eJ t_ x.heard+eJ zw x.list
theorem akE(x:bc):lj (gd x)=Fb x:=by
 simp only[gd,Fb,eU,fG,gB,gF,fy,Nat.add_zero,Nat.zero_add,rY E6,rY E']
 try omega
theorem akF{l:List bc}{n:Int}(h:0<=n)(h':n<l.length):Prim.ev (.cell 6 0) [.l (l.map gd),ii n]=some (ii (gt l n).kind):=im h (dz h h') rfl rfl
theorem akG{l:List bc}{n:Int}(h:0<=n)(h':n<l.length):Prim.ev (.a_ 6 0) [.l (l.map gd),ii n]=some (ii (gt l n).kind):=ll h (dz h h') rfl rfl rfl
theorem akH{l:List bc}{n:Int}(h:0<=n)(h':n<l.length):Prim.ev (.cell 6 1) [.l (l.map gd),ii n]=some (ii (gt l n).vT):=im h (dz h h') rfl rfl
theorem akI{l:List bc}{n:Int}(h:0<=n)(h':n<l.length):Prim.ev (.a_ 6 1) [.l (l.map gd),ii n]=some (ii (gt l n).vT):=ll h (dz h h') rfl rfl rfl
theorem akJ{l:List bc}{n:Int}(h:0<=n)(h':n<l.length):Prim.ev (.cell 6 2) [.l (l.map gd),ii n]=some (ii (gt l n).to):=im h (dz h h') rfl rfl
theorem akK{l:List bc}{n:Int}(h:0<=n)(h':n<l.length):Prim.ev (.a_ 6 2) [.l (l.map gd),ii n]=some (ii (gt l n).to):=ll h (dz h h') rfl rfl rfl
theorem akL{l:List bc}{n:Int}(h:0<=n)(h':n<l.length):Prim.ev (.cell 6 3) [.l (l.map gd),ii n]=some (ii (gt l n).ae):=im h (dz h h') rfl rfl
theorem akM{l:List bc}{n:Int}(h:0<=n)(h':n<l.length):Prim.ev (.a_ 6 3) [.l (l.map gd),ii n]=some (ii (gt l n).ae):=ll h (dz h h') rfl rfl rfl
theorem akN{l:List bc}{n:Int}(h:0<=n)(h':n<l.length):Prim.ev (.cell 6 4) [.l (l.map gd),ii n]=some (.l ((gt l n).heard.map aD)):=im h (dz h h') rfl rfl
theorem akO{l:List bc}{n:Int}(h:0<=n)(h':n<l.length):Prim.ev (.dJ 6 4) [.l (l.map gd),ii n]=some (.l ((gt l n).heard.map aD)):=yD h (dz h h') rfl rfl
theorem akP{l:List bc}{n:Int}(h:0<=n)(h':n<l.length):Prim.ev (.cell 6 5) [.l (l.map gd),ii n]=some (.l ((gt l n).list.map aB)):=im h (dz h h') rfl rfl
theorem akQ{l:List bc}{n:Int}(h:0<=n)(h':n<l.length):Prim.ev (.dJ 6 5) [.l (l.map gd),ii n]=some (.l ((gt l n).list.map aB)):=yD h (dz h h') rfl rfl
theorem Po{l m:List bc}(h:l.length+m.length<4294967296):Prim.ev (.app false 6) [.l (l.map gd),.l (m.map gd)]=some (.l ((l++m).map gd)):=rW (w:=6) (λ_=>rfl) (.inl rfl) h
theorem Ux{m:List bc}(h:m.length<4294967296):Prim.ev (.app false 6) [.l [],.l (m.map gd)]=some (.l (m.map gd)):=tY (w:=6) (λ_=>rfl) (.inl rfl) h
theorem akR{l:List bc}{x:bc}(h:l.length<4294967295):Prim.ev (.app false 6) [.l (l.map gd),.l ([x].map gd)]=some (.l ((l++[x]).map gd)):=Po (by simp;omega)
theorem akS{x:bc}:Prim.ev (.app false 6) [.l [],.l ([x].map gd)]=some (.l ([x].map gd)):=Ux (by simp)
theorem akT{l:List bc}{a:Int}(h:0<=a)(h':a<=l.length):Prim.ev (.sub 6 true false) [.l (l.map gd),ii a]=some (.l ((l.drop a.toNat).map gd)):=Bl (enc:=gd) (w:=6) (λ_=>rfl) h h'
theorem akU{l:List bc}{a:Int}(h:0<=a)(h':a<=l.length):Prim.ev (.sub 6 false true) [.l (l.map gd),ii a]=some (.l ((l.take a.toNat).map gd)):=Bm (enc:=gd) (w:=6) (λ_=>rfl) h h'
theorem KR(v0:Int)(v1:Int)(v2:Int)(v3:Int)(v4:List Int)(v5:List ah):Prim.ev (.lit 6 [true,true,true,true,false,false]) [ii v0,ii v1,ii v2,ii v3,.l (v4.map aD),.l (v5.map aB)]=some (.l ([(⟨v0,v1,v2,v3,v4,v5⟩:bc)].map gd)):=pV (by decide) rfl rfl
theorem KS(v0:Int)(v1:Int)(v2:Int)(v3:Int)(v4:List Int)(v5:List ah):Prim.ev (.lit 6 []) [ii v0,ii v1,ii v2,ii v3,.l (v4.map aD),.l (v5.map aB)]=some (.l ([(⟨v0,v1,v2,v3,v4,v5⟩:bc)].map gd)):=pV (by decide) rfl rfl
theorem akV(x:bc):(⟨x.kind,x.vT,x.to,x.ae,x.heard,x.list⟩:bc)=x:=rfl
structure akW where
 Uo:Bool
 to:Int
 aG:List Int
 deriving Inhabited
structure ax' where
 gone:Bool
 line:akW
 deriving Inhabited
structure World where
 net:Net
 aF:List Bool
 up:List Bool
 awD:List Int
 nodes:List Node
 akX:List bc
 told:List ah
 errors:Int
 deriving Inhabited
set_option linter.unusedSimpArgs false
set_option linter.defProp false
theorem pz:(∀p:Prop,(p∨p)=p)∧(∀p:Prop,(p∨True)=True)∧(∀p:Prop,(True∨p)=True)∧(∀p:Prop,(p∨False)=p)∧(∀p:Prop,(False∨p)=p)∧(¬True)=False∧(¬False)=True∧(∀a:Int,(a<a)=False):=
 ⟨or_self,or_true,true_or,or_false,false_or,not_true_eq_false,not_false_eq_true,λa=>eq_false (Int.lt_irrefl a)⟩
@[congr] theorem aya {α β:Type} {F:(α->Option β)->α->Option β} {R:Nat} {x y:α} (h:x=y):iter F R x=iter F R y:=by rw[h]
@[congr] theorem ayb {α β:Type} {o o':Option α} {f:α->Option β} (h:o=o'):o.bind f=o'.bind f:=by rw[h]
@[congr] theorem ayc {t t':T} {x y:Option (List T)} (h:t=t'):aA t x y=aA t' x y:=by rw[h]
@[congr] theorem ayd {k:af} {b:af->Option (List T)}:jn k b=jn k b:=rfl
@[congr] theorem aye {o o':Option (List T)} {k:T->Option (List T)} (h:o=o'):bp o k=bp o' k:=by rw[h]
@[congr] theorem ayf {k:T->Option (List T)} {l l':List T} (h:l=l'):eE k l=eE k l':=by rw[h]
@[congr] theorem ayg {k:T->T->Option (List T)} {l l':List T} (h:l=l'):ed k l=ed k l':=by rw[h]
@[congr] theorem ayh {o o':Option (List T)} {k:T->T->T->Option (List T)} (h:o=o'):mo o k=mo o' k:=by rw[h]
@[congr] theorem ayi {k:T->T->T->Option (List T)} {l l':List T} (h:l=l'):sM k l=sM k l':=by rw[h]
@[congr] theorem ayj {o o':Option (List T)} {k:T->T->T->T->Option (List T)} (h:o=o'):tX o k=tX o' k:=by rw[h]
@[congr] theorem ayk {k:T->T->T->T->Option (List T)} {l l':List T} (h:l=l'):KD k l=KD k l':=by rw[h]
@[congr] theorem ayl {k:T->T->T->T->T->Option (List T)} {l l':List T} (h:l=l'):Pn k l=Pn k l':=by rw[h]
@[congr] theorem aym {o o':Option (List T)} {k:T->T->T->T->T->T->Option (List T)} (h:o=o'):TY o k=TY o' k:=by rw[h]
@[congr] theorem ayn {o o':Option (List T)} {k:T->T->T->T->T->T->T->Option (List T)} (h:o=o'):C3 o k=C3 o' k:=by rw[h]
@[congr] theorem ayo {o o':Option (List T)} {k:T->T->T->T->T->T->T->T->Option (List T)} (h:o=o'):po o k=po o' k:=by rw[h]
@[congr] theorem ayp {o o':Option (List T)} {k:T->T->T->T->T->T->T->T->T->Option (List T)} (h:o=o'):KF o k=KF o' k:=by rw[h]
@[congr] theorem ayq {k:T->T->T->T->T->T->T->T->T->T->Option (List T)} {l l':List T} (h:l=l'):E2 k l=E2 k l':=by rw[h]
theorem Uy(b:Bool)(x y:Option (List T)):aA (bb b) x y=if b=true then x else y:=by cases b<;>rfl
theorem akY:Prim.ev .len [.l []]=some (ii 0):=rfl
theorem akZ(a b:Int)(h:b≠0):Prim.ev (.bin .rem) [ii a,ii b]=some (ii (a.tmod b)):=by
 simp only[Prim.ev,T.val,lO,Option.bind_some,if_true,h,if_false]
theorem ak0(a b:Int):Prim.ev .mx [ii a,ii b]=some (ii (if b>a then b else a)):=rfl
theorem ak1(a b:Int):Prim.ev .mn [ii a,ii b]=some (ii (if b<a then b else a)):=rfl
theorem ak2(a b c d a' b' c' d':Int):Prim.ev (.s5 [1,1,1,1]) [ii a,ii b,ii c,ii d,ii a',ii b',ii c',ii d']=some (bb (a==a'&&(b==b'&&(c==c'&&(d==d'))))):=by
 simp[Prim.ev,ww,OS]
theorem ak3(a b c a' b' c':Int)(d d':Bool):Prim.ev (.s5 [1,1,1,4]) [ii a,ii b,ii c,bb d,ii a',ii b',ii c',bb d']=some (bb (a==a'&&(b==b'&&(c==c'&&(d==d'))))):=by
 simp[Prim.ev,ww,OS]
theorem ak4{w:Nat}(h:0<w):Prim.ev (.lit w []) []=some (.l []):=by
 simp[Prim.ev,rl,qA,h]
theorem ak5(a b:Int):Prim.ev (.lit 1 [true,true]) [ii a,ii b]=some (.l ([a,b].map aD)):=by simp[Prim.ev,rl,qA,eA,aD]
theorem ak6(a b:Int):Prim.ev (.lit 1 []) [ii a,ii b]=some (.l ([a,b].map aD)):=by simp[Prim.ev,rl,qA,aD]
theorem ak7{l:List Int}{x y:Int}(h:l.length<4294967294):Prim.ev (.app true 1) [.l (l.map aD),.l ([x,y].map aD)]=some (.l ((l++[x,y]).map aD)):=yF (by simp;omega)
theorem ak8(a b:Int):((a==b)=true)=(a=b):=by simp
theorem ak9(a b:Int):((a !=b)=true)=¬(a=b):=by simp
theorem ak_(b:Bool):((!b)=true)=¬(b=true):=by simp
theorem ak'(a b:Bool):((a !=b)=true)=¬((a=true)=(b=true)):=by cases a<;>cases b<;>simp
theorem ala(a b:Bool):((a==b)=true)=((a=true)=(b=true)):=by cases a<;>cases b<;>simp
theorem Bp(a b:Nat):((a+b:Nat):Int)=(a:Int)+b:=by simp
theorem Bq:((1:Nat):Int)=1:=rfl
theorem alb:((2:Nat):Int)=2:=rfl
theorem alc:((3:Nat):Int)=3:=rfl
theorem ald:((5:Nat):Int)=5:=rfl
theorem ale:((6:Nat):Int)=6:=rfl
theorem alf:((7:Nat):Int)=7:=rfl
theorem alg:((9:Nat):Int)=9:=rfl
theorem KT:((0:Nat):Int)=0:=rfl
theorem yL{α:Type}{p q:Prop} [Decidable p] [Decidable q](h:p↔q)(x y:α):(if p then x else y)=if q then x else y:=by
 by_cases hq:q
 ·rw[if_pos (h.2 hq),if_pos hq]
 ·rw[if_neg (λhp=>hq (h.1 hp)),if_neg hq]
def ln(n:Nat)(p:Nat->Bool):Bool:=(List.range n).all p
theorem bQ{n:Nat}{p:Nat->Bool}:ln n p=true↔∀i,i<n->p i=true:=by
 simp[ln]
theorem Br{β σ:Type}{F:(σ->Option β)->σ->Option β}(n:Nat)(st:Nat->σ)(p:Nat->Bool){iR gf:Option β}
  (step:∀i:Nat,(i:Int)<(n:Int)->∀s,F s (st i)=if p i=true then s (st (i+1))else gf)(fin:∀s,F s (st n)=iR){R:Nat}(hR:n<R):
  iter F R (st 0)=if ln n p=true then iR else gf:=by
 classical
 have:∀(d i:Nat),i+d=n->∀R,d<R->iter F R (st i)=if(∀j,i<=j->j<n->p j=true)then iR else gf:=by
  intro d
  induction d with
  |zero=>
   intro i hi R hR
   cases R with
   |zero=>omega
   |succ R=>
    have hi:i=n:=hi
    subst hi
    rw[if_pos (λj h1 h2=>absurd h1 (by omega))]
    exact fin _
  |succ d ih=>
   intro i hi R hR
   cases R with
   |zero=>omega
   |succ R=>
    unfold iter
    rw[step i (by omega)]
    by_cases hp:p i=true
    ·rw[if_pos hp,ih (i+1) (by omega) R (by omega)]
     refine yL ⟨λh j h1 h2=>?_,λh j h1 h2=>h j (by omega) h2⟩ _ _
     rcases Nat.lt_or_ge i j with h3|h3
     ·exact h j h3 h2
     ·have:j=i:=by omega
      subst this;exact hp
    ·rw[if_neg hp,if_neg λh=>hp (h i (Nat.le_refl i) (by omega))]
 rw[this n 0 (by omega) R hR]
 exact yL ⟨λh=>bQ.2 λi hi=>h i (Nat.zero_le i) hi,λh j _ h2=>bQ.1 h j h2⟩ _ _
def eF{α:Type}(p:α->Bool)(l:List α):Int:=match l.findIdx? p with|some i=>(i:Int)|none=>-1
theorem ub{α:Type}(p:α->Bool)(l:List α):eF p l<l.length:=by
 unfold eF
 cases h:l.findIdx? p with
 |none=>show(-1:Int)<_;omega
 |some i=>
  obtain⟨h1,_⟩:=List.findIdx?_eq_some_iff_getElem.1 h
  show(i:Int)<_;omega
theorem alh{α:Type}(p:α->Bool)(l:List α):-1<=eF p l:=by
 unfold eF
 cases h:l.findIdx? p with
 |none=>show(-1:Int)<=-1;omega
 |some i=>show(-1:Int)<=(i:Int);omega
theorem uc{α:Type} [Inhabited α](p:α->Bool)(l:List α)(h:0<=eF p l):p (gt l (eF p l))=true:=by
 unfold eF at h⊢
 cases h':l.findIdx? p with
 |none=>rw[h']at h;exact absurd h (by decide)
 |some i=>
  obtain⟨h1,h2,_⟩:=List.findIdx?_eq_some_iff_getElem.1 h'
  show p (gt l (i:Int))=true
  rw[d_ h1];exact h2
theorem C4{α:Type}(p:α->Bool)(l:List α):eF p l<0↔∀x∈l,p x=false:=by
 unfold eF
 cases h:l.findIdx? p with
 |none=>
  rw[List.findIdx?_eq_none_iff]at h
  exact⟨λ_=>h,λ_=>by show(-1:Int)<0;decide⟩
 |some i=>
  obtain⟨h1,h2,_⟩:=List.findIdx?_eq_some_iff_getElem.1 h
  refine⟨λh3=>absurd (show(i:Int)<0 from h3) (by omega),λh3=>?_⟩
  rw[h3 _ (List.getElem_mem h1)]at h2
  cases h2
theorem KU{α β σ:Type} [Inhabited α]{F:(σ->Option β)->σ->Option β}(l:List α)(st:Nat->σ)(p:α->Bool)(rZ:Int->Option β){lp:Option β}
  (step:∀i:Nat,(i:Int)<(l.length:Int)->∀s,F s (st i)=if p (gt l i)=true then rZ i else s (st (i+1)))(fin:∀s,F s (st l.length)=lp){R:Nat}(hR:l.length<R):
  iter F R (st 0)=if eF p l<0 then lp else rZ (eF p l):=by
 have:∀(d i:Nat),i+d=l.length->∀R,d<R->iter F R (st i)=(match(l.drop i).findIdx? p with|some k=>rZ ((i+k:Nat):Int)|none=>lp):=by
  intro d
  induction d with
  |zero=>
   intro i hi R hR
   cases R with
   |zero=>omega
   |succ R=>
    rw[Nat.add_zero]at hi
    subst hi
    rw[List.drop_length]
    exact fin _
  |succ d ih=>
   intro i hi R hR
   cases R with
   |zero=>omega
   |succ R=>
    have be:i<l.length:=by omega
    unfold iter
    rw[step i (by omega),List.drop_eq_getElem_cons be,List.findIdx?_cons,d_ be]
    cases hp:p l[i]with
    |true=>simp
    |false=>
     simp only[dS,if_false]
     rw[ih (i+1) (by omega) R (by omega)]
     cases(l.drop (i+1)).findIdx? p with
     |none=>rfl
     |some k=>simp[Int.add_assoc,Int.add_comm 1]
 have h:=this l.length 0 (by omega) R hR
 rw[h,List.drop_zero]
 unfold eF
 cases l.findIdx? p with
 |none=>rfl
 |some i=>
  show rZ ((0+i:Nat):Int)=if(i:Int)<0 then lp else rZ (i:Int)
  rw[if_neg (by omega),Nat.zero_add]
theorem Uz{α γ β σ:Type} [Inhabited α]{F:(σ->Option β)->σ->Option β}(l:List α)(st:Nat->γ->σ)(g:γ->α->γ)(out:γ->Option β)(c:γ)(Inv:Nat->γ->Prop)(h0:Inv 0 c)
  (step:∀(i:Nat) c,(i:Int)<(l.length:Int)->Inv i c->Inv (i+1) (g c (gt l i))∧∀s,F s (st i c)=s (st (i+1) (g c (gt l i))))(fin:∀c s,Inv l.length c->F s (st l.length c)=out c){R:Nat}(hR:l.length<R):
  iter F R (st 0 c)=out (l.foldl g c):=by
 have:∀(d i:Nat) (c:γ),i+d=l.length->Inv i c->∀R,d<R->iter F R (st i c)=out ((l.drop i).foldl g c):=by
  intro d
  induction d with
  |zero=>
   intro i c hi hc R hR
   cases R with
   |zero=>omega
   |succ R=>
    rw[Nat.add_zero]at hi
    subst hi
    rw[List.drop_length]
    exact fin _ _ hc
  |succ d ih=>
   intro i c hi hc R hR
   cases R with
   |zero=>omega
   |succ R=>
    have be:i<l.length:=by omega
    unfold iter
    obtain⟨h1,h2⟩:=step i c (by omega) hc
    rw[h2,List.drop_eq_getElem_cons be,List.foldl_cons,ih (i+1) _ (by omega) h1 R (by omega),d_ be]
 have h:=this l.length 0 c (by omega) h0 R hR
 simpa using h
theorem ali{γ β σ:Type}{F:(σ->Option β)->σ->Option β}(n:Nat)(st:Nat->γ->σ)(g:γ->Nat->γ)(out:γ->Option β)(c:γ)(Inv:Nat->γ->Prop)(h0:Inv 0 c)
  (step:∀(i:Nat) c,(i:Int)<(n:Int)->Inv i c->Inv (i+1) (g c i)∧∀s,F s (st i c)=s (st (i+1) (g c i)))(fin:∀c s,Inv n c->F s (st n c)=out c){R:Nat}(hR:n<R):
  iter F R (st 0 c)=out ((List.range n).foldl g c):=by
 have hl:(List.range n).length=n:=List.length_range
 refine Uz (List.range n) st g out c Inv h0 (λi c hi hc=>?_) (λc s hc=>?_) (by rw[hl];exact hR)
 ·rw[hl]at hi
  rw[d_ (by rw[hl];omega),List.getElem_range]
  exact step i c hi hc
 ·rw[hl]at hc⊢
  exact fin c s hc
theorem KV{α β:Type}(p:α->Bool)(f:α->β)(l:List α)(acc:List β):l.foldl (λc a=>if p a=true then c++[f a]else c) acc=acc++(l.filter p).map f:=by
 induction l generalizing acc with
 |nil=>simp
 |cons a l ih=>
  rw[List.foldl_cons,ih]
  cases h:p a<;>simp[h,List.filter_cons]
theorem foldl_map{α β:Type}(f:α->β)(l:List α)(acc:List β):l.foldl (λc a=>c++[f a]) acc=acc++l.map f:=by
 induction l generalizing acc with
 |nil=>simp
 |cons a l ih=>rw[List.foldl_cons,ih];simp
theorem yM{β σ:Type}{F:(σ->Option β)->σ->Option β}{R:Nat}{x:σ}(n:Nat)(st:Nat->σ)(p:Nat->Bool){iR gf:Option β}(hx:x=st 0)(hR:n<R)
  (step:∀i:Nat,(i:Int)<(n:Int)->∀s,F s (st i)=if p i=true then s (st (i+1))else gf)(fin:∀s,F s (st n)=iR):
  iter F R x=if ln n p=true then iR else gf:=by rw[hx];exact Br n st p step fin hR
theorem H0{α β σ:Type} [Inhabited α]{F:(σ->Option β)->σ->Option β}{R:Nat}{x:σ}(l:List α)(st:Nat->σ)(p:α->Bool)(rZ:Int->Option β){lp:Option β}(hx:x=st 0)(hR:l.length<R)
  (step:∀i:Nat,(i:Int)<(l.length:Int)->∀s,F s (st i)=if p (gt l i)=true then rZ i else s (st (i+1)))(fin:∀s,F s (st l.length)=lp):
  iter F R x=if eF p l<0 then lp else rZ (eF p l):=by rw[hx];exact KU l st p rZ step fin hR
theorem jc{α γ β σ:Type} [Inhabited α]{F:(σ->Option β)->σ->Option β}{R:Nat}{x:σ}(l:List α)(st:Nat->γ->σ)(g:γ->α->γ)(out:γ->Option β)(c:γ)(Inv:Nat->γ->Prop)(hx:x=st 0 c)(hR:l.length<R)(h0:Inv 0 c)
  (step:∀(i:Nat) c,(i:Int)<(l.length:Int)->Inv i c->Inv (i+1) (g c (gt l i))∧∀s,F s (st i c)=s (st (i+1) (g c (gt l i))))(fin:∀c s,Inv l.length c->F s (st l.length c)=out c):
  iter F R x=out (l.foldl g c):=by rw[hx];exact Uz l st g out c Inv h0 step fin hR
theorem ud{γ β σ:Type}{F:(σ->Option β)->σ->Option β}{R:Nat}{x:σ}(n:Nat)(st:Nat->γ->σ)(g:γ->Nat->γ)(out:γ->Option β)(c:γ)(Inv:Nat->γ->Prop)(hx:x=st 0 c)(hR:n<R)(h0:Inv 0 c)
  (step:∀(i:Nat) c,(i:Int)<(n:Int)->Inv i c->Inv (i+1) (g c i)∧∀s,F s (st i c)=s (st (i+1) (g c i)))(fin:∀c s,Inv n c->F s (st n c)=out c):
  iter F R x=out ((List.range n).foldl g c):=by rw[hx];exact ali n st g out c Inv h0 step fin hR
theorem KW{α γ:Type} [Inhabited α]{l:List α}{g:γ->α->γ}{c:γ}{Inv:Nat->γ->Prop}(h0:Inv 0 c)(step:∀(i:Nat) c,(i:Int)<(l.length:Int)->Inv i c->Inv (i+1) (g c (gt l i))):Inv l.length (l.foldl g c):=by
 have:∀(d i:Nat) (c:γ),i+d=l.length->Inv i c->Inv l.length ((l.drop i).foldl g c):=by
  intro d
  induction d with
  |zero=>intro i c hi hc;rw[Nat.add_zero]at hi;subst hi;rw[List.drop_length];exact hc
  |succ d ih=>
   intro i c hi hc
   have be:i<l.length:=by omega
   rw[List.drop_eq_getElem_cons be,List.foldl_cons]
   have:=step i c (by omega) hc
   rw[d_ be]at this
   exact ih (i+1) _ (by omega) this
 have h:=this l.length 0 c (by omega) h0
 simpa using h
theorem UA(n:Nat):(n:Int).tmod 2=((n%2:Nat):Int):=rfl
theorem dR{n:Nat}(h:n<=1048576):n<rounds:=by unfold rounds;omega
def Fc{γ:Type}(ok:Nat->γ->Bool)(g:γ->Nat->γ)(n:Nat)(c:γ):Option γ:=(List.range n).foldl (λo i=>o.bind λc=>if ok i c=true then some (g c i)else none) (some c)
theorem UB{γ:Type}(ok:Nat->γ->Bool)(g:γ->Nat->γ)(l:List Nat):l.foldl (λo i=>o.bind λc=>if ok i c=true then some (g c i)else none) (none:Option γ)=none:=by
 induction l with
 |nil=>rfl
 |cons i l ih=>exact ih
theorem KX{γ β σ:Type}{F:(σ->Option β)->σ->Option β}{R:Nat}{x:σ}(n:Nat)(st:Nat->γ->σ)(ok:Nat->γ->Bool)(g:γ->Nat->γ)(out:γ->Option β){gf:Option β}(c:γ)(Inv:Nat->γ->Prop)(hx:x=st 0 c)(hR:n<R)(h0:Inv 0 c)
  (step:∀(i:Nat) c,(i:Int)<(n:Int)->Inv i c->(ok i c=true->Inv (i+1) (g c i))∧∀s,F s (st i c)=if ok i c=true then s (st (i+1) (g c i))else gf)(fin:∀c s,Inv n c->F s (st n c)=out c):
  iter F R x=match Fc ok g n c with|some c=>out c|none=>gf:=by
 subst hx
 have:∀(d i:Nat) (c:γ),i+d=n->Inv i c->∀R,d<R->iter F R (st i c)=match((List.range n).drop i).foldl (λo i=>o.bind λc=>if ok i c=true then some (g c i)else none) (some c)with|some c=>out c|none=>gf:=by
  intro d
  induction d with
  |zero=>
   intro i c hi hc R hR
   cases R with
   |zero=>omega
   |succ R=>
    rw[Nat.add_zero]at hi
    subst hi
    rw[List.drop_eq_nil_iff.2 (by simp)]
    exact fin _ _ hc
  |succ d ih=>
   intro i c hi hc R hR
   cases R with
   |zero=>omega
   |succ R=>
    have be:i<(List.range n).length:=by simp;omega
    unfold iter
    obtain⟨h1,h2⟩:=step i c (by omega) hc
    rw[h2,List.drop_eq_getElem_cons be,List.foldl_cons,List.getElem_range]
    cases hp:ok i c with
    |true=>
     simp only[if_true,Option.bind_some,hp]
     exact ih (i+1) _ (by omega) (h1 hp) R (by omega)
    |false=>
     simp only[dS,if_false,Option.bind_some,hp,UB]
 have h:=this n 0 c (by omega) h0 R hR
 simpa[Fc]using h
theorem UC{γ:Type}{ok:Nat->γ->Bool}{g:γ->Nat->γ}(P:γ->Bool){n:Nat}{c:γ}(pU:∀c i,P (g c i)=true->P c=true)(dQ:∀i c,i<n->P c=true->ok i c=P (g c i))(h:P c=true):
  Fc ok g n c=if P ((List.range n).foldl g c)=true then some ((List.range n).foldl g c)else none:=by
 have:∀(l:List Nat) (c:γ),(∀i∈l,i<n)->P c=true->l.foldl (λo i=>o.bind λc=>if ok i c=true then some (g c i)else none) (some c)=if P (l.foldl g c)=true then some (l.foldl g c)else none:=by
  intro l
  induction l with
  |nil=>intro c _ hc;simp[hc]
  |cons i l ih=>
   intro c hl hc
   rw[List.foldl_cons,List.foldl_cons,Option.bind_some,dQ i c (hl i (.head _)) hc]
   cases hp:P (g c i)with
   |true=>rw[if_pos rfl];exact ih _ (λj hj=>hl j (.tail _ hj)) hp
   |false=>
    rw[if_neg (by simp),UB]
    have:P (l.foldl g (g c i))=false:=by
     have hm:∀(l:List Nat) (c:γ),P (l.foldl g c)=true->P c=true:=by
      intro l
      induction l with
      |nil=>exactλc h=>h
      |cons j l ih=>exactλc h=>pU _ _ (ih _ h)
     cases hq:P (l.foldl g (g c i))with
     |false=>rfl
     |true=>rw[hm _ _ hq]at hp;cases hp
    simp[this]
 exact this _ c (λi hi=>by simpa using hi) h
theorem KY{α:Type}(p:α->Bool)(l:List α)(acc:List α):l.foldl (λc a=>if p a=true then c++[a]else c) acc=acc++l.filter p:=by
 induction l generalizing acc with
 |nil=>simp
 |cons a l ih=>
  rw[List.foldl_cons,ih]
  cases h:p a<;>simp[h,List.filter_cons]
def ps0:=(az (az (az (az (@dU T (List T)) (az trivial @TS)) (az trivial (az @ahR @ahS))) (az (az trivial (az @ahT @ahU)) (az @ahV (az @ahW trivial)))) (az (az (az trivial (az trivial trivial)) (az trivial (az trivial trivial))) (az (az trivial (az @TT @TU)) (az @TV (az @TW @TX)))))
def ps1:=(az (az (az (az trivial (az trivial trivial)) (az trivial (az @TZ trivial))) (az (az trivial (az trivial trivial)) (az trivial (az trivial Uy)))) (az (az (az (λ(p:Prop) (_:Decidable p)=>@decide_eq_true_eq p _) (az bk Bool.or_eq_true)) (az ak_ (az ak' ala))) (az (az ak8 (az ak9 @E3)) (az akY (az @S2 @pn)))))
def ps2:=(az (az (az (az @S4 (az @S5 @S6)) (az @EN (az @yl @ym))) (az (az @yn (az @agL akZ)) (az ak0 (az ak1 Kf)))) (az (az (az S9 (az Kg @CY)) (az EM (az S3 @T3))) (az (az @yk (az ag2 ak2)) (az ak3 (az @ak4 Bp)))))
def ps3:=(az (az (az (az KT (az Bq alb)) (az alc (az ald ale))) (az (az alf (az alg S7)) (az S8 (az ak5 ak6)))) (az (az (az @ak7 (az (λ(k:Nat)=>@Int.toNat_natCast k) (λ(α:Type) (f:α->List T) (l:List α)=>@List.length_map α (List T) l f))) (az aiz (az aiP trivial))) (az (az ai5 (az ajq ajC)) (az trivial (az ajX akd)))))
def ps4:=(az (az (az (az akC (az akV trivial)) (az trivial (az trivial @ah0))) (az (az @ah1 (az @ah2 @ah3)) (az @T4 (az @T5 @Bn)))) (az (az (az @ah4 (az @yF @T6)) (az @ah5 (az @ah6 @ah7))) (az (az @ah8 (az @ah9 @ah_)) (az @ah' (az @aia @T7)))))
def ps5:=(az (az (az (az @T8 (az @aib @aic)) (az @T9 (az @T_ @aid))) (az (az @aie (az @aif @aih)) (az @aij (az @aik @ail)))) (az (az (az @aim (az @ain @aio)) (az @aip (az @aiq @air))) (az (az @ais (az @T' @Ua)) (az @ait (az @aiu @Ub)))))
def ps6:=(az (az (az (az @Uc (az @aiv @aiw)) (az @aix (az @aiy @aiB))) (az (az @aiC (az @aiD @aiE)) (az @aiF (az @aiG @aiH)))) (az (az (az @aiI (az @aiJ @aiK)) (az @Ud (az @Ue @aiL))) (az (az @aiM (az @Uf @Ug)) (az @aiN (az @aiO trivial)))))
def ps7:=(az (az (az (az trivial (az trivial trivial)) (az trivial (az trivial trivial))) (az (az trivial (az trivial trivial)) (az trivial (az trivial trivial)))) (az (az (az trivial (az @aiT @aiU)) (az @aiV (az @aiW @aiX))) (az (az @aiY (az @Uh @Ui)) (az @aiZ (az @ai0 @Uj)))))
def ps8:=(az (az (az (az @Uk (az @ai1 @ai2)) (az @ai3 (az @ai4 @ai7))) (az (az @ai8 (az @ai9 @ai_)) (az @ai' (az @aja @ajb)))) (az (az (az @ajc (az @ajd @aje)) (az @ajf (az @ajg @ajh))) (az (az @aji (az @ajj @ajk)) (az @ajl (az @ajm @Ul)))))
def ps9:=(az (az (az (az @Um (az @ajn @ajo)) (az @Un (az @ajp @ajr))) (az (az @ajs (az @ajt @aju)) (az @ajv (az @ajw @KN)))) (az (az (az @ajx (az @HY @HZ)) (az @ajy (az @ajz @ajA))) (az (az @ajB (az trivial trivial)) (az trivial (az trivial trivial)))))
def alj:=(az (az (az (az trivial (az trivial trivial)) (az trivial (az trivial trivial))) (az (az trivial (az trivial trivial)) (az trivial (az trivial trivial)))) (az (az (az trivial (az trivial trivial)) (az @ajD (az @ajE @ajF))) (az (az @ajG (az @ajH @ajI)) (az @ajJ (az @ajK @ajL)))))
def alk:=(az (az (az (az @ajM (az @ajN @ajO)) (az @ajP (az @ajQ @ajR))) (az (az @ajS (az @Up @Uq)) (az @ajT (az @ajU @ajV)))) (az (az (az @ajW (az @ajZ @aj0)) (az @aj1 (az @aj2 @aj3))) (az (az @aj4 (az @aj5 @aj6)) (az @aj7 (az @aj8 @Ur)))))
def alm:=(az (az (az (az @Us (az @aj9 @aj_)) (az @Ut (az @Uu @aj'))) (az (az @aka (az @akb @akc)) (az @akg (az @akh @aki)))) (az (az (az @akj (az @akk @akl)) (az @akm (az @akn @ako))) (az (az @akp (az @akq @akr)) (az @aks (az @akt @aku)))))
def aln:=(az (az (az (az @akv (az @akw @akx)) (az @Uv (az @Uw @aky))) (az (az @akz (az @akA @akB)) (az @akF (az @akG @akH)))) (az (az (az @akI (az @akJ @akK)) (az @akL (az @akM @akN))) (az (az @akO (az @akP @akQ)) (az @akR (az @akS @Po)))))
def alo:=(az (az (az (az @Ux (az @akT @akU)) (az @KR (az @KS trivial))) (az (az trivial (az trivial trivial)) (az trivial (az trivial trivial)))) (az (az (az trivial (az trivial trivial)) (az trivial (az trivial trivial))) (az (az trivial (az trivial trivial)) (az trivial (az trivial trivial)))))
def alp:=(az (az (az (az trivial (az trivial trivial)) (az trivial (az trivial trivial))) (az (az trivial (az trivial trivial)) (az trivial (az trivial trivial)))) (az (az (az trivial (az trivial trivial)) (az trivial (az trivial trivial))) (az (az trivial (az trivial trivial)) (az trivial (az trivial trivial)))))
def alq:=(az (az (az trivial (az trivial trivial)) (az (az trivial trivial) (az trivial trivial))) (az (az (az trivial trivial) (az trivial trivial)) (az (az trivial trivial) (az trivial trivial))))
def pq:=(az (az (az (az (az TR Uy) (az ahr (az ahs aht))) (az (az ahu (az ahv ahw)) (az ahx (az ahy ahz)))) (az (az (az ahA ahB) (az ahC (az ahD ahE))) (az (az ahF (az ahG ahH)) (az ahI (az ahJ ahK))))) (az (az (az (az ahL ahM) (az ahN (az ahO ahP))) (az (az ahQ (az trivial @TT)) (az @TU (az @TV @TW)))) (az (az (az @TX (az trivial trivial)) (az trivial (az trivial @TZ))) (az (az trivial (az trivial trivial)) (az trivial (az trivial trivial))))))
def pj:=az ahX trivial
def ps:=(az (az (az (az ps0 ps1) (az ps2 ps3)) (az (az ps4 ps5) (az ps6 ps7))) (az (az (az ps8 ps9) (az alj alk)) (az (az alm aln) (az alo (az alp alq)))))
end Go.Proofs.YtjimmglpkndemaaGreatC

/- What the small functions compute: words, nets, records, stores. Conditions: none. -/
import Derived.Test.YtjimmglpkndemaaGreatXGH
namespace Go.Proofs.YtjimmglpkndemaaGreatC
attribute [local irreducible] jp
open Int renaming reduceLE -> af, reduceLT -> ah, reduceEq -> ai, reduceGT -> aj, reduceGE -> ak, reduceAdd -> ap, reduceSub -> aq, reduceMul -> au, reduceNeg -> av
set_option linter.unusedVariables false
set_option linter.unusedSimpArgs false
theorem jR(p:Prop) [Decidable p](x y:Bool):(if p then some [bb x]else some [bb y])=some [bb (if p then x else y)]:=by by_cases h:p<;>simp[h]
def gx(a lo hi:Int):Bool:=decide (lo<=a)&&decide (a<=hi)
theorem be{a lo hi:Int}:gx a lo hi=true↔lo<=a∧a<=hi:=by simp[gx]
theorem uH(a lo hi:Int):rb [ii a,ii lo,ii hi]=some [bb (gx a lo hi)]:=by
 rw[ap9];simp(disch:=omega) only[↓pq,↓pj,ps,pz,↓reduceIte,af,ah,ai,aj,ak,ap,aq,au,av,Nn,jR];unfold gx
 by_cases h:a>=lo<;>simp[h]<;>omega
theorem vx(a lo hi:Int):ra [ii a,ii lo,ii hi]=some [bb (gx a lo hi)]:=by
 rw[aoj];simp(disch:=omega) only[↓pq,↓pj,ps,pz,↓reduceIte,af,ah,ai,aj,ak,ap,aq,au,av,Mz,jR];unfold gx
 by_cases h:a>=lo<;>simp[h]<;>omega
def kj(n:Int)(l:bH):Bool:=gx n 1 6&&gx l.a 1 n&&gx l.b 1 n&&decide (l.a<l.b)&&gx l.cost 1 1000&&gx l.ae 0 2
theorem asx(n a b c ar:Int):Cv [ii n,ii a,ii b,ii c,ii ar]=some [bb (kj n ⟨a,b,c,ar⟩)]:=by
 rw[ap'];simp(disch:=omega) only[↓pq,↓pj,ps,pz,↓reduceIte,af,ah,ai,aj,ak,ap,aq,au,av,Np,uH,jR];unfold kj
 grind
theorem asy(n a b c ar:Int):Cg [ii n,ii a,ii b,ii c,ii ar]=some [bb (kj n ⟨a,b,c,ar⟩)]:=by
 rw[aol];simp(disch:=omega) only[↓pq,↓pj,ps,pz,↓reduceIte,af,ah,ai,aj,ak,ap,aq,au,av,MA,vx,jR];unfold kj
 grind
def iC(x y:bH):Bool:=decide (x.a<y.a∨x.a=y.a∧(x.b<y.b∨x.b=y.b∧x.ae<y.ae))
theorem asz(a b c d a' b' c' d':Int):Cw [ii a,ii b,ii c,ii d,ii a',ii b',ii c',ii d']=some [bb (iC ⟨a,b,c,d⟩ ⟨a',b',c',d'⟩)]:=by
 rw[aqb];simp(disch:=omega) only[↓pq,↓pj,ps,pz,↓reduceIte,af,ah,ai,aj,ak,ap,aq,au,av,Nq,jR];unfold iC
 grind
theorem kd_(a b c d a' b' c' d':Int):LB [ii a,ii b,ii c,ii d,ii a',ii b',ii c',ii d']=some [bb (iC ⟨a,b,c,d⟩ ⟨a',b',c',d'⟩)]:=by
 rw[an7];simp(disch:=omega) only[↓pq,↓pj,ps,pz,↓reduceIte,af,ah,ai,aj,ak,ap,aq,au,av,Mq,jR];unfold iC
 grind
def n6(x y:bZ):Bool:=decide (x.key<y.key∨x.key=y.key∧x.owner<y.owner)
theorem asA(a b c a' b' c':Int)(d d':Bool):Cy [ii a,ii b,ii c,bb d,ii a',ii b',ii c',bb d']=some [bb (n6 ⟨a,b,c,d⟩ ⟨a',b',c',d'⟩)]:=by
 rw[aqd];simp(disch:=omega) only[↓pq,↓pj,ps,pz,↓reduceIte,af,ah,ai,aj,ak,ap,aq,au,av,Nr,jR];unfold n6
 grind
theorem jT_(a b c a' b' c':Int)(d d':Bool):LC [ii a,ii b,ii c,bb d,ii a',ii b',ii c',bb d']=some [bb (n6 ⟨a,b,c,d⟩ ⟨a',b',c',d'⟩)]:=by
 rw[aob];simp(disch:=omega) only[↓pq,↓pj,ps,pz,↓reduceIte,af,ah,ai,aj,ak,ap,aq,au,av,Mu,jR];unfold n6
 grind
def du{α:Type} [Inhabited α](ok:α->Bool)(lt:α->α->Bool)(l:List α):Bool:=
 ke l.length λi=>ok (gt l i)&&(!decide ((i:Int)>0)||lt (gt l (i-1:Int)) (gt l i))
def xP(n:Int)(t:bZ):Bool:=gx t.owner 1 n&&gx t.key 1 9&&gx t.cost 1 1000
def n7(x:Net):Bool:=gx x.n 1 6&&decide (x.aB.length<=12)&&decide (x.aG.length<=4)&&du (kj x.n) iC x.aB&&du (xP x.n) n6 x.aG
theorem Ot(n:Int)(ls:List bH)(ts:List bZ)(h1:ls.length<=1048576)(h2:ts.length<=1048576):LD [ii n,.l (ls.map cT),.l (ts.map dj)]=some [bb (n7 ⟨n,ls,ts⟩)]:=by
 rw[aon];simp(disch:=omega) only[↓pq,↓pj,ps,pz,↓reduceIte,af,ah,ai,aj,ak,ap,aq,au,av,MB,MC,ME,vx]
 rw[show iter _ _ _=(some [bb (du (kj n) iC ls&&du (xP n) n6 ts)]:Option (List T)) from ?_]
 ·simp(disch:=omega) only[↓pq,↓pj,ps,pz,↓reduceIte,af,ah,ai,aj,ak,ap,aq,au,av,MB,MC,jR];unfold n7;grind
 refine(B9 ls.length (λi=>[bb false,ii i]) (λi=>kj n (gt ls i)&&(!decide ((i:Int)>0)||iC (gt ls (i-1:Int)) (gt ls i))) (fF:=some [bb false]) (gV:=some [bb (du (xP n) n6 ts)]) ?_ ?_ (by unfold rounds;omega)).trans ?_
 ·intro i hi s
  simp(disch:=omega) only[↓pq,↓pj,ps,pz,↓reduceIte,af,ah,ai,aj,ak,ap,aq,au,av,MB,MC,hi,asy,kd_]
  grind
 ·intro s
  simp(disch:=omega) only[↓pq,↓pj,ps,pz,↓reduceIte,af,ah,ai,aj,ak,ap,aq,au,av,MB,MC,]
  refine(B9 ts.length (λi=>[bb false,ii i]) (λi=>xP n (gt ts i)&&(!decide ((i:Int)>0)||n6 (gt ts (i-1:Int)) (gt ts i))) (fF:=some [bb false]) (gV:=some [bb true]) ?_ ?_ (by unfold rounds;omega)).trans ?_
  ·intro i hi s
   simp(disch:=omega) only[↓pq,↓pj,ps,pz,↓reduceIte,af,ah,ai,aj,ak,ap,aq,au,av,MB,MC,hi,vx,jT_]
   unfold xP
   grind
  ·intro s
   simp(disch:=omega) only[↓pq,↓pj,ps,pz,↓reduceIte,af,ah,ai,aj,ak,ap,aq,au,av,MB,MC,]
  ·rw[jR];unfold du;simp
 ·rw[jR];unfold du;simp
theorem asB(n:Int)(ls:List bH)(ts:List bZ)(h1:ls.length<=1048576)(h2:ts.length<=1048576):Cz [ii n,.l (ls.map cT),.l (ts.map dj)]=some [bb (n7 ⟨n,ls,ts⟩)]:=by
 rw[aqf];simp(disch:=omega) only[↓pq,↓pj,ps,pz,↓reduceIte,af,ah,ai,aj,ak,ap,aq,au,av,Ns,Nt,Nu,uH]
 rw[show iter _ _ _=(some [bb (du (kj n) iC ls&&du (xP n) n6 ts)]:Option (List T)) from ?_]
 ·simp(disch:=omega) only[↓pq,↓pj,ps,pz,↓reduceIte,af,ah,ai,aj,ak,ap,aq,au,av,Ns,Nt,jR];unfold n7;grind
 refine(B9 ls.length (λi=>[bb false,ii i]) (λi=>kj n (gt ls i)&&(!decide ((i:Int)>0)||iC (gt ls (i-1:Int)) (gt ls i))) (fF:=some [bb false]) (gV:=some [bb (du (xP n) n6 ts)]) ?_ ?_ (by unfold rounds;omega)).trans ?_
 ·intro i hi s
  simp(disch:=omega) only[↓pq,↓pj,ps,pz,↓reduceIte,af,ah,ai,aj,ak,ap,aq,au,av,Ns,Nt,hi,asx,asz]
  grind
 ·intro s
  simp(disch:=omega) only[↓pq,↓pj,ps,pz,↓reduceIte,af,ah,ai,aj,ak,ap,aq,au,av,Ns,Nt,]
  refine(B9 ts.length (λi=>[bb false,ii i]) (λi=>xP n (gt ts i)&&(!decide ((i:Int)>0)||n6 (gt ts (i-1:Int)) (gt ts i))) (fF:=some [bb false]) (gV:=some [bb true]) ?_ ?_ (by unfold rounds;omega)).trans ?_
  ·intro i hi s
   simp(disch:=omega) only[↓pq,↓pj,ps,pz,↓reduceIte,af,ah,ai,aj,ak,ap,aq,au,av,Ns,Nt,hi,uH,asA]
   unfold xP
   grind
  ·intro s
   simp(disch:=omega) only[↓pq,↓pj,ps,pz,↓reduceIte,af,ah,ai,aj,ak,ap,aq,au,av,Ns,Nt,]
  ·rw[jR];unfold du;simp
 ·rw[jR];unfold du;simp
def eE(a b ar:Int)(l:bH):Bool:=l.ae==ar&&(l.a==a&&l.b==b||l.a==b&&l.b==a)
theorem Ou{α:Type}(p:α->Bool)(l:List α):(if dJ p l<0 then some [ii (-1)]else some [ii (dJ p l)])=some [ii (dJ p l)]:=by
 have h:=Lx p l
 by_cases h':dJ p l<0
 ·rw[if_pos h',show dJ p l=-1 by omega]
 ·rw[if_neg h']
theorem Ov(t0 t2:T)(ls:List bH)(a b ar:Int)(h1:ls.length<=1048576):Gd [t0,.l (ls.map cT),t2,ii a,ii b,ii ar]=some [ii (dJ (eE a b ar) ls)]:=by
 rw[aqh];simp(disch:=omega) only[↓pq,↓pj,ps,pz,↓reduceIte,af,ah,ai,aj,ak,ap,aq,au,av,GK,Nv]
 refine(Ly ls (λi=>[ii 0,ii i]) (eE a b ar) (λi=>some [ii i]) (ku:=some [ii (-1)]) ?_ ?_ (by unfold rounds;omega)).trans (Ou _ _)
 ·intro i hi s
  simp(disch:=omega) only[↓pq,↓pj,ps,pz,↓reduceIte,af,ah,ai,aj,ak,ap,aq,au,av,GK,hi]
  unfold eE
  grind
 ·intro s
  simp(disch:=omega) only[↓pq,↓pj,ps,pz,↓reduceIte,af,ah,ai,aj,ak,ap,aq,au,av,GK,]
def lg(ls:List bH)(a b ar:Int):Int:=if dJ (eE a b ar) ls<0 then 0 else(gt ls (dJ (eE a b ar) ls)).cost
theorem I_(t0 t2:T)(ls:List bH)(a b ar:Int)(h1:ls.length<=1048576):wH [t0,.l (ls.map cT),t2,ii a,ii b,ii ar]=some [ii (lg ls a b ar)]:=by
 rw[aoh];simp(disch:=omega) only[↓pq,↓pj,ps,pz,↓reduceIte,af,ah,ai,aj,ak,ap,aq,au,av,Gu,My]
 refine(Ly ls (λi=>[ii 0,ii i]) (eE a b ar) (λi=>some [ii (gt ls i).cost]) (ku:=some [ii 0]) ?_ ?_ (by unfold rounds;omega)).trans ?_
 ·intro i hi s
  simp(disch:=omega) only[↓pq,↓pj,ps,pz,↓reduceIte,af,ah,ai,aj,ak,ap,aq,au,av,Gu,hi]
  unfold eE
  grind
 ·intro s
  simp(disch:=omega) only[↓pq,↓pj,ps,pz,↓reduceIte,af,ah,ai,aj,ak,ap,aq,au,av,Gu,]
 ·unfold lg
  split<;>rfl
theorem asC(t0 t2:T)(ls:List bH)(a b ar:Int)(h1:ls.length<=1048576):CI [t0,.l (ls.map cT),t2,ii a,ii b,ii ar]=some [ii (lg ls a b ar)]:=by
 have h:=o5 (eE a b ar) ls
 rw[aq5];simp(disch:=omega) only[↓pq,↓pj,ps,pz,↓reduceIte,af,ah,ai,aj,ak,ap,aq,au,av,NR,Ov]
 unfold lg
 grind
theorem QQ{ls:List bH}{n:Int}(h:du (kj n) iC ls=true)(a b ar:Int):lg ls a b ar=0↔dJ (eE a b ar) ls<0:=by
 unfold lg
 by_cases h':dJ (eE a b ar) ls<0
 ·simp[h']
 ·rw[if_neg h']
  have hl:=o5 (eE a b ar) ls
  have:=bW.1 h (dJ (eE a b ar) ls).toNat (by omega)
  rw[show(((dJ (eE a b ar) ls).toNat:Nat):Int)=dJ (eE a b ar) ls by omega]at this
  simp only[bL,kj,be]at this
  omega
def xQ(ok:Int->Int->Bool)(l:List Int):Bool:=
 ke (l.length/2) λk=>ok (gt l (2*k:Int)) (gt l (2*k+1:Int))&&(!decide ((k:Int)>0)||decide (gt l (2*k-2:Int)<gt l (2*k:Int)∨gt l (2*k-2:Int)=gt l (2*k:Int)∧gt l (2*k-1:Int)<gt l (2*k+1:Int)))
theorem asD(id aV n:Int)(ls:List bH)(t2 t3:T)(hd:List Int)(h1:ls.length<=1048576)(h2:hd.length<=1048576):
  Y9 [ii id,ii aV,ii n,.l (ls.map cT),t2,.l (hd.map aE),t3]=some [bb (decide (hd.length%2=0)&&xQ (λv a=>decide (0<=dJ (eE id v a) ls)) hd)]:=by
 rw[aqj];simp(disch:=omega) only[↓pq,↓pj,ps,pz,↓reduceIte,af,ah,ai,aj,ak,ap,aq,au,av,kk_,Nw]
 have hm:=VA hd.length
 by_cases he:hd.length%2=0
 ·simp only[hm,he,Lw,not_true_eq_false,if_false]
  refine(sH (hd.length/2) (λk=>[bb false,ii (2*k)]) (λk=>decide (0<=dJ (eE id (gt hd (2*k:Int)) (gt hd (2*k+1:Int))) ls)&&(!decide ((k:Int)>0)||decide (gt hd (2*k-2:Int)<gt hd (2*k:Int)∨gt hd (2*k-2:Int)=gt hd (2*k:Int)∧gt hd (2*k-1:Int)<gt hd (2*k+1:Int)))) (fF:=some [bb false]) (gV:=some [bb true]) rfl (c_ (by omega)) ?_ ?_).trans ?_
  ·intro i hi s
   have bC:2*(i:Int)<hd.length:=by omega
   simp(disch:=omega) only[↓pq,↓pj,ps,pz,↓reduceIte,af,ah,ai,aj,ak,ap,aq,au,av,kk_,bC,Ov,Int.mul_add]
   grind
  ·intro s
   have bC:¬(2*((hd.length/2:Nat):Int)<hd.length):=by omega
   simp(disch:=omega) only[↓pq,↓pj,ps,pz,↓reduceIte,af,ah,ai,aj,ak,ap,aq,au,av,kk_,bC]
  ·rw[jR];unfold xQ;simp
 ·have:¬((hd.length%2:Nat):Int)=0:=by omega
  simp only[hm,this,not_false_eq_true,if_true,he,decide_false,Bool.false_and]
theorem asE(id aV n:Int)(ls:List bH)(t2 t3:T)(hd:List Int)(h1:ls.length<=1048576)(h2:hd.length<=1048576):
  XF [ii id,ii aV,ii n,.l (ls.map cT),t2,.l (hd.map aE),t3]=some [bb (decide (hd.length%2=0)&&(decide (hd.length<=60)&&xQ (λv a=>!decide (lg ls id v a=0)) hd))]:=by
 rw[apt];simp(disch:=omega) only[↓pq,↓pj,ps,pz,↓reduceIte,af,ah,ai,aj,ak,ap,aq,au,av,jK_,Na]
 have hm:=VA hd.length
 by_cases he:hd.length%2=0
 ·have h9:¬((0:Int)=1):=by decide
  simp only[hm,he,Lw,h9,if_false]
  by_cases h6:hd.length<=60
  ·have h7:¬((hd.length:Int)>60):=by omega
   simp only[h7,if_false]
   refine(sH (hd.length/2) (λk=>[bb false,ii (2*k)]) (λk=>!decide (lg ls id (gt hd (2*k:Int)) (gt hd (2*k+1:Int))=0)&&(!decide ((k:Int)>0)||decide (gt hd (2*k-2:Int)<gt hd (2*k:Int)∨gt hd (2*k-2:Int)=gt hd (2*k:Int)∧gt hd (2*k-1:Int)<gt hd (2*k+1:Int)))) (fF:=some [bb false]) (gV:=some [bb true]) rfl (c_ (by omega)) ?_ ?_).trans ?_
   ·intro i hi s
    have bC:2*(i:Int)<hd.length:=by omega
    simp(disch:=omega) only[↓pq,↓pj,ps,pz,↓reduceIte,af,ah,ai,aj,ak,ap,aq,au,av,jK_,bC,I_,Int.mul_add]
    grind
   ·intro s
    have bC:¬(2*((hd.length/2:Nat):Int)<hd.length):=by omega
    simp(disch:=omega) only[↓pq,↓pj,ps,pz,↓reduceIte,af,ah,ai,aj,ak,ap,aq,au,av,jK_,bC]
   ·rw[jR];unfold xQ;simp[h6]
  ·have h7:((hd.length:Int)>60):=by omega
   simp[h7,h6]
 ·have h8:((hd.length%2:Nat):Int)=1:=by omega
  simp only[hm,h8,if_true,he,decide_false,Bool.false_and]
def tH(o:Int)(l:List cC):Bool:=
 ke l.length λi=>gx (gt l i).to 1 6&& !decide ((gt l i).to=o)&&gx (gt l i).cost 1 1000&&(!decide ((i:Int)>0)||decide ((gt l (i-1:Int)).to<(gt l i).to))
theorem asF(t0 t1:T)(o:Int)(t3 t4:T)(l:List cC)(t6 t7:T)(h:l.length<=1048576):CA [t0,t1,ii o,t3,t4,.l (l.map eJ),t6,t7]=some [bb (tH o l)]:=by
 rw[aql];simp(disch:=omega) only[↓pq,↓pj,ps,pz,↓reduceIte,af,ah,ai,aj,ak,ap,aq,au,av,GL,Nx]
 refine(sH l.length (λi=>[bb false,ii i]) (λi=>gx (gt l i).to 1 6&& !decide ((gt l i).to=o)&&gx (gt l i).cost 1 1000&&(!decide ((i:Int)>0)||decide ((gt l (i-1:Int)).to<(gt l i).to))) (fF:=some [bb false]) (gV:=some [bb true]) rfl (c_ h) ?_ ?_).trans (jR _ _ _ |>.trans (by unfold tH;simp))
 ·intro i hi s
  simp(disch:=omega) only[↓pq,↓pj,ps,pz,↓reduceIte,af,ah,ai,aj,ak,ap,aq,au,av,GL,hi,uH]
  grind
 ·intro s
  simp(disch:=omega) only[↓pq,↓pj,ps,pz,↓reduceIte,af,ah,ai,aj,ak,ap,aq,au,av,GL,]
theorem asG(t0 t1:T)(o:Int)(t3 t4:T)(l:List cC)(t6 t7:T)(h:l.length<=1048576):Wo [t0,t1,ii o,t3,t4,.l (l.map eJ),t6,t7]=some [bb (tH o l)]:=by
 rw[aoB];simp(disch:=omega) only[↓pq,↓pj,ps,pz,↓reduceIte,af,ah,ai,aj,ak,ap,aq,au,av,ki_,ML]
 refine(sH l.length (λi=>[bb false,ii i]) (λi=>gx (gt l i).to 1 6&& !decide ((gt l i).to=o)&&gx (gt l i).cost 1 1000&&(!decide ((i:Int)>0)||decide ((gt l (i-1:Int)).to<(gt l i).to))) (fF:=some [bb false]) (gV:=some [bb true]) rfl (c_ h) ?_ ?_).trans (jR _ _ _ |>.trans (by unfold tH;simp))
 ·intro i hi s
  simp(disch:=omega) only[↓pq,↓pj,ps,pz,↓reduceIte,af,ah,ai,aj,ak,ap,aq,au,av,ki_,hi,vx]
  grind
 ·intro s
  simp(disch:=omega) only[↓pq,↓pj,ps,pz,↓reduceIte,af,ah,ai,aj,ak,ap,aq,au,av,ki_,]
def eP(r:ay):Bool:=
 gx r.owner 1 6&&gx r.seq 1 100000&&
 if r.kind=1 then gx r.ae 0 2&&decide (r.key=0)&&tH r.owner r.aX&&decide (r.cost=0)&& !r.e_
 else if r.kind=2 then gx r.ae 0 2&&gx r.key 1 6&&decide ((r.aX.length:Int)=0)&&gx r.cost 0 60000&& !r.e_
 else if r.kind=3 then decide (r.ae=9)&&gx r.key 1 9&&decide ((r.aX.length:Int)=0)&&(gx r.cost 1 1000||decide (r.cost=60000))
 else false
theorem ab6(a k o y s:Int)(l:List cC)(c:Int)(f:Bool)(h:l.length<=1048576):L7 [ii a,ii k,ii o,ii y,ii s,.l (l.map eJ),ii c,bb f]=some [bb (eP ⟨a,k,o,y,s,l,c,f⟩)]:=by
 rw[aqn];simp(disch:=omega) only[↓pq,↓pj,ps,pz,↓reduceIte,af,ah,ai,aj,ak,ap,aq,au,av,Ny,uH,asF,jR];unfold eP
 grind
theorem ab7(a k o y s:Int)(l:List cC)(c:Int)(f:Bool)(h:l.length<=1048576):LI [ii a,ii k,ii o,ii y,ii s,.l (l.map eJ),ii c,bb f]=some [bb (eP ⟨a,k,o,y,s,l,c,f⟩)]:=by
 rw[aoD];simp(disch:=omega) only[↓pq,↓pj,ps,pz,↓reduceIte,af,ah,ai,aj,ak,ap,aq,au,av,MM,vx,asG,jR];unfold eP
 grind
def dS(a b:ay):Bool:=decide (a.ae=b.ae)&&(decide (a.kind=b.kind)&&(decide (a.owner=b.owner)&&decide (a.key=b.key)))
theorem sameKey_iff{a b:ay}:dS a b=true↔a.ae=b.ae∧a.kind=b.kind∧a.owner=b.owner∧a.key=b.key:=by simp[dS]
theorem Ow(a k o y:Int)(s:T)(l c f:T)(a' k' o' y':Int)(s' l' c' f':T):Gi [ii a,ii k,ii o,ii y,s,l,c,f,ii a',ii k',ii o',ii y',s',l',c',f']=some [bb (dS ⟨a,k,o,y,0,[],0,false⟩ ⟨a',k',o',y',0,[],0,false⟩)]:=by
 rw[aqT];simp(disch:=omega) only[↓pq,↓pj,ps,pz,↓reduceIte,af,ah,ai,aj,ak,ap,aq,au,av,NM,jR];unfold dS
 grind
theorem ab8(a k o y:Int)(s:T)(l c f:T)(a' k' o' y':Int)(s' l' c' f':T):LJ [ii a,ii k,ii o,ii y,s,l,c,f,ii a',ii k',ii o',ii y',s',l',c',f']=some [bb (dS ⟨a,k,o,y,0,[],0,false⟩ ⟨a',k',o',y',0,[],0,false⟩)]:=by
 rw[aoH];simp(disch:=omega) only[↓pq,↓pj,ps,pz,↓reduceIte,af,ah,ai,aj,ak,ap,aq,au,av,MO,jR];unfold dS
 grind
def fC(a b:ay):Bool:=decide (a.ae<b.ae∨a.ae=b.ae∧(a.kind<b.kind∨a.kind=b.kind∧(a.owner<b.owner∨a.owner=b.owner∧a.key<b.key)))
theorem pG{a b:ay}:fC a b=true↔a.ae<b.ae∨a.ae=b.ae∧(a.kind<b.kind∨a.kind=b.kind∧(a.owner<b.owner∨a.owner=b.owner∧a.key<b.key)):=by simp[fC]
theorem Ox(a k o y:Int)(s:T)(l c f:T)(a' k' o' y':Int)(s' l' c' f':T):L8 [ii a,ii k,ii o,ii y,s,l,c,f,ii a',ii k',ii o',ii y',s',l',c',f']=some [bb (fC ⟨a,k,o,y,0,[],0,false⟩ ⟨a',k',o',y',0,[],0,false⟩)]:=by
 rw[aqp];simp(disch:=omega) only[↓pq,↓pj,ps,pz,↓reduceIte,af,ah,ai,aj,ak,ap,aq,au,av,Nz,jR];unfold fC
 grind
theorem Oy(a k o y:Int)(s:T)(l c f:T)(a' k' o' y':Int)(s' l' c' f':T):LG [ii a,ii k,ii o,ii y,s,l,c,f,ii a',ii k',ii o',ii y',s',l',c',f']=some [bb (fC ⟨a,k,o,y,0,[],0,false⟩ ⟨a',k',o',y',0,[],0,false⟩)]:=by
 rw[aov];simp(disch:=omega) only[↓pq,↓pj,ps,pz,↓reduceIte,af,ah,ai,aj,ak,ap,aq,au,av,MI,jR];unfold fC
 grind
theorem ab9(a b:ay):fC ⟨a.ae,a.kind,a.owner,a.key,0,[],0,false⟩ ⟨b.ae,b.kind,b.owner,b.key,0,[],0,false⟩=fC a b:=rfl
def Ej(a b:List cC):Bool:=decide (a.length=b.length)&&ke a.length λi=>decide ((gt a i).to=(gt b i).to)&&decide ((gt a i).cost=(gt b i).cost)
def vy(a b:ay):Bool:=dS a b&&decide (a.cost=b.cost)&&(a.e_==b.e_)&&Ej a.aX b.aX
theorem Oz(a k o y s:Int)(l:List cC)(c:Int)(f:Bool)(a' k' o' y' s':Int)(l':List cC)(c':Int)(f':Bool)(h:l.length<=1048576):Md [ii a,ii k,ii o,ii y,ii s,.l (l.map eJ),ii c,bb f,ii a',ii k',ii o',ii y',ii s',.l (l'.map eJ),ii c',bb f']=some [bb (vy ⟨a,k,o,y,s,l,c,f⟩ ⟨a',k',o',y',s',l',c',f'⟩)]:=by
 rw[aqV];simp(disch:=omega) only[↓pq,↓pj,ps,pz,↓reduceIte,af,ah,ai,aj,ak,ap,aq,au,av,QJ,NN,Ow]
 by_cases hl:(l.length:Int)=l'.length
 ·rw[show iter _ _ _=(some [bb (Ej l l')]:Option (List T)) from ?_]
  ·rw[show dS ⟨a,k,o,y,0,[],0,false⟩ ⟨a',k',o',y',0,[],0,false⟩=dS ⟨a,k,o,y,s,l,c,f⟩ ⟨a',k',o',y',s',l',c',f'⟩ from rfl]
   simp(disch:=omega) only[↓pq,↓pj,ps,pz,↓reduceIte,af,ah,ai,aj,ak,ap,aq,au,av,QJ,jR,hl];unfold vy;grind
  refine(sH l.length (λi=>[bb false,ii i]) (λi=>decide ((gt l i).to=(gt l' i).to)&&decide ((gt l i).cost=(gt l' i).cost)) (fF:=some [bb false]) (gV:=some [bb true]) rfl (c_ h) ?_ ?_).trans (jR _ _ _ |>.trans (by unfold Ej;simp;omega))
  ·intro i hi s
   simp(disch:=omega) only[↓pq,↓pj,ps,pz,↓reduceIte,af,ah,ai,aj,ak,ap,aq,au,av,QJ,hi]
   grind
  ·intro s
   simp(disch:=omega) only[↓pq,↓pj,ps,pz,↓reduceIte,af,ah,ai,aj,ak,ap,aq,au,av,QJ,]
 ·rw[show dS ⟨a,k,o,y,0,[],0,false⟩ ⟨a',k',o',y',0,[],0,false⟩=dS ⟨a,k,o,y,s,l,c,f⟩ ⟨a',k',o',y',s',l',c',f'⟩ from rfl]
  have:Ej l l'=false:=by unfold Ej;simp;omega
  simp(disch:=omega) only[↓pq,↓pj,ps,pz,↓reduceIte,af,ah,ai,aj,ak,ap,aq,au,av,QJ,jR,hl,not_false_eq_true];unfold vy;grind
theorem OA(a k o y s:Int)(l:List cC)(c:Int)(f:Bool)(a' k' o' y' s':Int)(l':List cC)(c':Int)(f':Bool)(h:l.length<=1048576):F9 [ii a,ii k,ii o,ii y,ii s,.l (l.map eJ),ii c,bb f,ii a',ii k',ii o',ii y',ii s',.l (l'.map eJ),ii c',bb f']=some [bb (vy ⟨a,k,o,y,s,l,c,f⟩ ⟨a',k',o',y',s',l',c',f'⟩)]:=by
 rw[apE];simp(disch:=omega) only[↓pq,↓pj,ps,pz,↓reduceIte,af,ah,ai,aj,ak,ap,aq,au,av,QH,Nf,ab8]
 by_cases hl:(l.length:Int)=l'.length
 ·rw[show iter _ _ _=(some [bb (Ej l l')]:Option (List T)) from ?_]
  ·rw[show dS ⟨a,k,o,y,0,[],0,false⟩ ⟨a',k',o',y',0,[],0,false⟩=dS ⟨a,k,o,y,s,l,c,f⟩ ⟨a',k',o',y',s',l',c',f'⟩ from rfl]
   simp(disch:=omega) only[↓pq,↓pj,ps,pz,↓reduceIte,af,ah,ai,aj,ak,ap,aq,au,av,QH,jR,hl];unfold vy;grind
  refine(sH l.length (λi=>[bb false,ii i]) (λi=>decide ((gt l i).to=(gt l' i).to)&&decide ((gt l i).cost=(gt l' i).cost)) (fF:=some [bb false]) (gV:=some [bb true]) rfl (c_ h) ?_ ?_).trans (jR _ _ _ |>.trans (by unfold Ej;simp;omega))
  ·intro i hi s
   simp(disch:=omega) only[↓pq,↓pj,ps,pz,↓reduceIte,af,ah,ai,aj,ak,ap,aq,au,av,QH,hi]
   grind
  ·intro s
   simp(disch:=omega) only[↓pq,↓pj,ps,pz,↓reduceIte,af,ah,ai,aj,ak,ap,aq,au,av,QH,]
 ·rw[show dS ⟨a,k,o,y,0,[],0,false⟩ ⟨a',k',o',y',0,[],0,false⟩=dS ⟨a,k,o,y,s,l,c,f⟩ ⟨a',k',o',y',s',l',c',f'⟩ from rfl]
  have:Ej l l'=false:=by unfold Ej;simp;omega
  simp(disch:=omega) only[↓pq,↓pj,ps,pz,↓reduceIte,af,ah,ai,aj,ak,ap,aq,au,av,QH,jR,hl,not_false_eq_true];unfold vy;grind
def dv(s:List ay):Bool:=decide (s.length<=150)&&du eP fC s
def aQ(s:List ay):Prop:=∀r∈s,r.aX.length<=1048576
theorem aQ.gt{s:List ay}(h:aQ s){n:Int}(h0:0<=n)(h1:n<s.length):(Go.Proofs.YtjimmglpkndemaaGreatC.gt s n).aX.length<=1048576:=h _ (iT h0 h1)
theorem G8(s:List ay)(h:s.length<=1048576)(hn:aQ s):CB [.l (s.map aw)]=some [bb (dv s)]:=by
 rw[aqr];simp(disch:=omega) only[↓pq,↓pj,ps,pz,↓reduceIte,af,ah,ai,aj,ak,ap,aq,au,av,kn_,NA]
 refine(sH s.length (λi=>[bb false,ii i]) (λi=>eP (gt s i)&&(!decide ((i:Int)>0)||fC (gt s (i-1:Int)) (gt s i))) (fF:=some [bb false]) (gV:=some [bb (decide (s.length<=150))]) rfl (c_ h) ?_ ?_).trans (jR _ _ _ |>.trans (by unfold dv du;grind))
 ·intro i hi s1
  have:=hn.gt (n:=i) (by omega) hi
  simp(disch:=omega) only[↓pq,↓pj,ps,pz,↓reduceIte,af,ah,ai,aj,ak,ap,aq,au,av,kn_,hi,ab6,Ox,ab9]
  grind
 ·intro s1
  simp(disch:=omega) only[↓pq,↓pj,ps,pz,↓reduceIte,af,ah,ai,aj,ak,ap,aq,au,av,kn_,]
  simp;omega
theorem k4_(s:List ay)(h:s.length<=1048576)(hn:aQ s):y_ [.l (s.map aw)]=some [bb (dv s)]:=by
 rw[aoF];simp(disch:=omega) only[↓pq,↓pj,ps,pz,↓reduceIte,af,ah,ai,aj,ak,ap,aq,au,av,kF_,MN]
 by_cases h1:s.length<=150
 ·have h2:¬((s.length:Int)>150):=by omega
  simp only[h2,if_false]
  refine(sH s.length (λi=>[bb false,ii i]) (λi=>eP (gt s i)&&(!decide ((i:Int)>0)||fC (gt s (i-1:Int)) (gt s i))) (fF:=some [bb false]) (gV:=some [bb true]) rfl (c_ h) ?_ ?_).trans (jR _ _ _ |>.trans (by unfold dv du;grind))
  ·intro i hi s1
   have:=hn.gt (n:=i) (by omega) hi
   simp(disch:=omega) only[↓pq,↓pj,ps,pz,↓reduceIte,af,ah,ai,aj,ak,ap,aq,au,av,kF_,hi,ab7,Oy,ab9]
   grind
  ·intro s1
   simp(disch:=omega) only[↓pq,↓pj,ps,pz,↓reduceIte,af,ah,ai,aj,ak,ap,aq,au,av,kF_,]
 ·have h2:((s.length:Int)>150):=by omega
  unfold dv
  simp[h2,h1]
theorem ab'(f:Nat->Int):∀(n:Nat),(∀k,k+1<n->f k<f (k+1))->∀k,k<n->f 0+k<=f k
 |n,h,0,_=>by simp
 |n,h,k+1,hk=>by
  have:=ab' f n h k (by omega)
  have:=h k hk
  omega
theorem asH{n:Int}{ls:List bH}(h:du (kj n) iC ls=true){id:Int}{hd:List Int}(hp:xQ (λv a=>decide (0<=dJ (eE id v a) ls)) hd=true):hd.length/2<=18:=by
 have hk:=λk hk=>bW.1 hp k hk
 have hj:∀k,k<hd.length/2->1<=gt hd (2*k:Int)∧gt hd (2*k:Int)<=6∧0<=gt hd (2*k+1:Int)∧gt hd (2*k+1:Int)<=2:=by
  intro k mf
  have h1:=hk k mf
  simp only[bL,decide_eq_true_eq]at h1
  have h2:=q_ _ _ h1.1
  have h3:=o5 (eE id (gt hd (2*k:Int)) (gt hd (2*k+1:Int))) ls
  have h4:=bW.1 h (dJ (eE id (gt hd (2*k:Int)) (gt hd (2*k+1:Int))) ls).toNat (by omega)
  rw[show(((dJ (eE id (gt hd (2*k:Int)) (gt hd (2*k+1:Int))) ls).toNat:Nat):Int)=dJ (eE id (gt hd (2*k:Int)) (gt hd (2*k+1:Int))) ls by omega]at h4
  simp only[eE,bL,Bool.or_eq_true,beq_iff_eq]at h2
  simp only[bL,kj,be,decide_eq_true_eq]at h4
  omega
 rcases Nat.eq_zero_or_pos (hd.length/2)with h0|h0
 ·omega
 have:=ab' (λk=>3*gt hd (2*k:Int)+gt hd (2*k+1:Int)) (hd.length/2) (λk mf=>?_) (hd.length/2-1) (by omega)
 ·have h1:=hj 0 (by omega)
  have h2:=hj (hd.length/2-1) (by omega)
  omega
 ·have h1:=hk (k+1) mf
  have h2:=hj k (by omega)
  have h3:=hj (k+1) mf
  simp only[bL,Bool.or_eq_true,decide_eq_true_eq,Bool.not_eq_true',decide_eq_false_iff_not]at h1
  simp only[B7,B8,show(2:Int)*((k:Int)+1)=2*k+2 by omega]at h1 h3⊢
  simp only[show(2:Int)*k+2-2=2*k by omega,show(2:Int)*k+2-1=2*k+1 by omega]at h1
  omega
def jf(x:Self):Bool:=n7 x.net&&(gx x.id 1 x.net.n&&(gx x.aV 0 90&&(decide (x.heard.length%2=0)&&xQ (λv a=>decide (0<=dJ (eE x.id v a) x.net.aB)) x.heard&&dv x.store)))
theorem G9(id aV n:Int)(ls:List bH)(ts:List bZ)(hd:List Int)(st:List ay)(h1:ls.length<=1048576)(h2:ts.length<=1048576)(h3:hd.length<=1048576)(h4:st.length<=1048576)(h5:aQ st):
  CC [ii id,ii aV,ii n,.l (ls.map cT),.l (ts.map dj),.l (hd.map aE),.l (st.map aw)]=some [bb (jf ⟨id,aV,⟨n,ls,ts⟩,hd,st⟩)]:=by
 rw[aqt];simp(disch:=omega) only[↓pq,↓pj,ps,pz,↓reduceIte,af,ah,ai,aj,ak,ap,aq,au,av,NB,asB,uH,asD,G8 _ h4 h5,jR];unfold jf
 grind
theorem C7(id aV n:Int)(ls:List bH)(ts:List bZ)(hd:List Int)(st:List ay)(h1:ls.length<=1048576)(h2:ts.length<=1048576)(h3:hd.length<=1048576)(h4:st.length<=1048576)(h5:aQ st):
  za [ii id,ii aV,ii n,.l (ls.map cT),.l (ts.map dj),.l (hd.map aE),.l (st.map aw)]=some [bb (jf ⟨id,aV,⟨n,ls,ts⟩,hd,st⟩)]:=by
 rw[apv];simp(disch:=omega) only[↓pq,↓pj,ps,pz,↓reduceIte,af,ah,ai,aj,ak,ap,aq,au,av,Nb,Ot,vx,asE,k4_ _ h4 h5,jR]
 have key:n7 ⟨n,ls,ts⟩=true->(decide (hd.length<=60)&&xQ (λv a=>!decide (lg ls id v a=0)) hd)=xQ (λv a=>decide (0<=dJ (eE id v a) ls)) hd:=by
  intro hn
  have hl:du (kj n) iC ls=true:=by simp only[n7,bL]at hn;exact hn.1.2
  have he:(λv a=>!decide (lg ls id v a=0))=λv a=>decide (0<=dJ (eE id v a) ls):=by
   funext v a
   have:=QQ hl id v a
   by_cases hc:lg ls id v a=0<;>simp[hc]<;>omega
  rw[he]
  cases hp:xQ (λv a=>decide (0<=dJ (eE id v a) ls)) hd with
  |false=>simp
  |true=>have:=asH hl hp;simp;omega
 unfold jf
 grind
def zm(a b:List Int):Bool:=decide ((a.length:Int)=b.length)&&ke a.length λi=>decide (gt a i=gt b i)
theorem jC{a b:List Int}:zm a b=true↔a=b:=by
 simp only[zm,bL,decide_eq_true_eq,bW]
 constructor
 ·rintro⟨h1,h2⟩
  refine List.ext_getElem (by omega) λi hi hj=>?_
  have:=h2 i hi
  rwa[eh hi,eh hj]at this
 ·rintro rfl
  exact⟨rfl,λ_ _=>rfl⟩
theorem asI(a b:List Int)(h:a.length<=1048576):Zr [.l (a.map aE),.l (b.map aE)]=some [bb (zm a b)]:=by
 rw[aqz];simp(disch:=omega) only[↓pq,↓pj,ps,pz,↓reduceIte,af,ah,ai,aj,ak,ap,aq,au,av,jL_,NE]
 by_cases hl:(a.length:Int)=b.length
 ·simp only[hl,not_true_eq_false,if_false]
  refine(sH a.length (λi=>[bb false,ii i]) (λi=>decide (gt a i=gt b i)) (fF:=some [bb false]) (gV:=some [bb true]) rfl (c_ h) ?_ ?_).trans (jR _ _ _ |>.trans (by unfold zm;simp[hl]))
  ·intro i hi s
   have aU:=hl▸hi
   simp(disch:=omega) only[↓pq,↓pj,ps,pz,↓reduceIte,af,ah,ai,aj,ak,ap,aq,au,av,jL_,hi,aU]
   grind
  ·intro s
   simp(disch:=omega) only[↓pq,↓pj,ps,pz,↓reduceIte,af,ah,ai,aj,ak,ap,aq,au,av,jL_,hl]
 ·unfold zm;simp[hl]
theorem asJ(a b:List Int)(h:a.length<=1048576):u4_ [.l (a.map aE),.l (b.map aE)]=some [bb (zm a b)]:=by
 rw[asd];simp(disch:=omega) only[↓pq,↓pj,ps,pz,↓reduceIte,af,ah,ai,aj,ak,ap,aq,au,av,u8_,Ol]
 by_cases hl:(a.length:Int)=b.length
 ·simp only[hl,not_true_eq_false,if_false]
  refine(sH a.length (λi=>[bb false,ii i]) (λi=>decide (gt a i=gt b i)) (fF:=some [bb false]) (gV:=some [bb true]) rfl (c_ h) ?_ ?_).trans (jR _ _ _ |>.trans (by unfold zm;simp[hl]))
  ·intro i hi s
   have aU:=hl▸hi
   simp(disch:=omega) only[↓pq,↓pj,ps,pz,↓reduceIte,af,ah,ai,aj,ak,ap,aq,au,av,u8_,hi,aU]
   grind
  ·intro s
   simp(disch:=omega) only[↓pq,↓pj,ps,pz,↓reduceIte,af,ah,ai,aj,ak,ap,aq,au,av,u8_,hl]
 ·unfold zm;simp[hl]
def G_(c:List Int)(e:cO):List Int:=if e.both=true then c++[e.node,e.ae]else c
def iK(l:List cO):List Int:=l.foldl G_ []
theorem OB(c:List Int)(e:cO):(G_ c e).length<=c.length+2:=by
 unfold G_;split<;>simp
theorem OC(l:List cO):(iK l).length<=2*l.length:=
 IU (Inv:=λi (c:List Int)=>c.length<=2*i) (by simp) λi c hi hc=>by have:=OB c (gt l i);omega
theorem OD(l:List cO)(h:l.length<=1048576):Gg [.l (l.map bG)]=some [.l ((iK l).map aE)]:=by
 rw[aqx];simp(disch:=omega) only[↓pq,↓pj,ps,pz,↓reduceIte,af,ah,ai,aj,ak,ap,aq,au,av,kE_,ND]
 refine gO l (λi c=>[.l (c.map aE),ii i]) G_ (λc=>some [T.l (c.map aE)]) [] (λi c=>c.length<=2*i) rfl (c_ h) (by simp) ?_ ?_
 ·intro i c hi hc
  have hl:=OB c (gt l i)
  refine⟨by omega,λs=>?_⟩
  simp(disch:=omega) only[↓pq,↓pj,ps,pz,↓reduceIte,af,ah,ai,aj,ak,ap,aq,au,av,kE_,hi]
  unfold G_
  split<;>rfl
 ·intro c s hc
  simp(disch:=omega) only[↓pq,↓pj,ps,pz,↓reduceIte,af,ah,ai,aj,ak,ap,aq,au,av,kE_,]
theorem OE(l:List cO)(h:l.length<=1048576):Ga [.l (l.map bG)]=some [.l ((iK l).map aE)]:=by
 rw[apM];simp(disch:=omega) only[↓pq,↓pj,ps,pz,↓reduceIte,af,ah,ai,aj,ak,ap,aq,au,av,jI_,Ng]
 refine gO l (λi c=>[.l (c.map aE),ii i]) G_ (λc=>some [T.l (c.map aE)]) [] (λi c=>c.length<=2*i) rfl (c_ h) (by simp) ?_ ?_
 ·intro i c hi hc
  have hl:=OB c (gt l i)
  refine⟨by omega,λs=>?_⟩
  simp(disch:=omega) only[↓pq,↓pj,ps,pz,↓reduceIte,af,ah,ai,aj,ak,ap,aq,au,av,jI_,hi]
  unfold G_
  split<;>rfl
 ·intro c s hc
  simp(disch:=omega) only[↓pq,↓pj,ps,pz,↓reduceIte,af,ah,ai,aj,ak,ap,aq,au,av,jI_,]
def mI(ls:List bH)(id:Int)(v:Nat)(c:List cO)(a:Nat):List cO:=if 0<=dJ (eE id (v+1) a) ls then c++[⟨v+1,a,0,false⟩]else c
def vz(ls:List bH)(id:Int)(c:List cO)(v:Nat):List cO:=(List.range 3).foldl (mI ls id v) c
def nM(ls:List bH)(id n:Int):List cO:=(List.range n.toNat).foldl (vz ls id) []
theorem QR(ls:List bH)(id:Int)(v:Nat)(c:List cO)(a:Nat):(mI ls id v c a).length<=c.length+1:=by
 unfold mI;split<;>simp
theorem Ha(ls:List bH)(id:Int)(c:List cO)(v:Nat):(vz ls id c v).length<=c.length+3:=by
 unfold vz
 have h1:=QR ls id v c 0
 have h2:=QR ls id v (mI ls id v c 0) 1
 have h3:=QR ls id v (mI ls id v (mI ls id v c 0) 1) 2
 show(mI ls id v (mI ls id v (mI ls id v c 0) 1) 2).length<=_
 omega
theorem asK(n:Int)(ls:List bH)(t2:T)(id:Int)(h:n<=6)(h1:ls.length<=1048576):CD [ii n,.l (ls.map cT),t2,ii id]=some [.l ((nM ls id n).map bG)]:=by
 rw[aqv];simp only[NC]
 refine o6 n.toNat (λi c=>[.l (c.map bG),ii (i+1)]) (vz ls id) (λc=>some [T.l (c.map bG)]) [] (λi c=>c.length<=3*i) rfl (c_ (by omega)) (by simp) ?_ ?_
 ·intro i c hi hc
  have hl:=Ha ls id c i
  refine⟨by omega,λs=>?_⟩
  have aU:(i:Int)+1<=n:=by omega
  simp(disch:=omega) only[↓pq,↓pj,ps,pz,↓reduceIte,af,ah,ai,aj,ak,ap,aq,au,av,jp_,js_,aU]
  refine o6 3 (λa c=>[.l (c.map bG),ii a]) (mI ls id i) (λc=>s [T.l (c.map bG),ii ((i+1:Nat)+1)]) c (λa c=>c.length<=3*i+a) rfl (by unfold rounds;omega) (by omega) ?_ ?_
  ·intro a c ha hc
   have hl:=QR ls id i c a
   refine⟨by omega,λs=>?_⟩
   have tI:(a:Int)<=2:=by omega
   simp(disch:=omega) only[↓pq,↓pj,ps,pz,↓reduceIte,af,ah,ai,aj,ak,ap,aq,au,av,jp_,js_,tI,Ov]
   unfold mI
   split<;>rfl
  ·intro c s' hc
   simp(disch:=omega) only[↓pq,↓pj,ps,pz,↓reduceIte,af,ah,ai,aj,ak,ap,aq,au,av,jp_,js_,]
 ·intro c s hc
  have aU:¬((n.toNat:Int)+1<=n):=by omega
  simp(disch:=omega) only[↓pq,↓pj,ps,pz,↓reduceIte,af,ah,ai,aj,ak,ap,aq,au,av,jp_,js_,aU]
def zn(want e:cO):Bool:=decide (e.node=want.node)&&(decide (e.ae=want.ae)&&(gx e.left 0 3&& !(e.both&&decide (e.left=0))))
def qQ(cq want:List cO):Bool:=decide (want.length<=cq.length)&&ke want.length λi=>zn (gt want i) (gt cq i)
def AB(cq want:List cO):Bool:=decide ((want.length:Int)=cq.length)&&ke cq.length λi=>zn (gt want i) (gt cq i)
def j5(x:Node):Bool:=jf x.self&&(AB x.cq (nM x.self.net.aB x.self.id x.self.net.n)&&zm (iK x.cq) x.self.heard)
theorem aca{x:Self}(h:jf x=true):1<=x.net.n∧x.net.n<=6:=by
 simp only[jf,n7,bL,be]at h
 exact h.1.1.1.1.1
theorem Hb(ls:List bH)(id n:Int)(h:n<=6):(nM ls id n).length<=18:=by
 have:=IU (l:=List.range n.toNat) (g:=vz ls id) (c:=[]) (Inv:=λi (c:List cO)=>c.length<=3*i) (by simp) (λi c hi hc=>by have:=Ha ls id c (gt (List.range n.toNat) i);omega)
 simp only[List.length_range]at this
 unfold nM
 omega
theorem OG(id aV n:Int)(ls:List bH)(ts:List bZ)(hd:List Int)(st:List ay)(es:List cO)(h1:ls.length<=1048576)(h2:ts.length<=1048576)(h3:hd.length<=1048576)(h4:st.length<=1048576)(h5:aQ st)(h6:es.length<=1048576):
  Eb [ii id,ii aV,ii n,.l (ls.map cT),.l (ts.map dj),.l (hd.map aE),.l (st.map aw),.l (es.map bG)]=some [bb (j5 ⟨⟨id,aV,⟨n,ls,ts⟩,hd,st⟩,es⟩)]:=by
 rw[aqB];simp(disch:=omega) only[↓pq,↓pj,ps,pz,↓reduceIte,af,ah,ai,aj,ak,ap,aq,au,av,jn_,NF,G9 _ _ _ _ _ _ _ h1 h2 h3 h4 h5]
 cases hs:jf ⟨id,aV,⟨n,ls,ts⟩,hd,st⟩with
 |false=>simp[j5,hs]
 |true=>
  have hn:1<=n∧n<=6:=aca hs
  have hw:=Hb ls id n hn.2
  have hb:=OC es
  simp only[not_true_eq_false,if_false]
  simp(disch:=omega) only[↓pq,↓pj,ps,pz,↓reduceIte,af,ah,ai,aj,ak,ap,aq,au,av,jn_,asK n ls _ id hn.2 h1]
  by_cases hl:((nM ls id n).length:Int)=es.length
  ·simp only[hl,not_true_eq_false,if_false]
   refine(sH es.length (λi=>[bb false,ii i]) (λi=>zn (gt (nM ls id n) i) (gt es i)) (fF:=some [bb false]) (gV:=some [bb (zm (iK es) hd)]) rfl (c_ h6) ?_ ?_).trans (jR _ _ _ |>.trans ?_)
   ·intro i hi s
    have aU:=hl▸hi
    simp(disch:=omega) only[↓pq,↓pj,ps,pz,↓reduceIte,af,ah,ai,aj,ak,ap,aq,au,av,jn_,hi,uH]
    unfold zn
    grind
   ·intro s
    simp(disch:=omega) only[↓pq,↓pj,ps,pz,↓reduceIte,af,ah,ai,aj,ak,ap,aq,au,av,jn_,OD _ h6,asI]
   ·unfold j5 AB
    simp[hs,hl]
  ·simp only[hl,not_false_eq_true,if_true]
   simp[j5,AB,hl]
theorem Hc{ls:List bH}{id:Int}{v:Nat}{es c:List cO}{a:Nat}(h:qQ es (mI ls id v c a)=true):qQ es c=true:=by
 unfold mI at h
 split at h
 ·simp only[qQ,bL,decide_eq_true_eq,List.length_append,List.length_singleton,bW]at h⊢
  refine⟨by omega,λi hi=>?_⟩
  have:=h.2 i (by omega)
  rwa[eh (by simp;omega),List.getElem_append_left hi,<-eh hi]at this
 ·exact h
theorem asL{ls:List bH}{id:Int}{v:Nat}{es c:List cO}(h:qQ es (vz ls id c v)=true):qQ es c=true:=
 Hc (Hc (Hc (show qQ es (mI ls id v (mI ls id v (mI ls id v c 0) 1) 2)=true from h)))
theorem asM{es c:List cO}{w:cO}(hc:qQ es c=true):qQ es (c++[w])=(decide (c.length<es.length)&&zn w (gt es c.length)):=by
 simp only[qQ,bL,decide_eq_true_eq,bW]at hc
 rw[Bool.eq_iff_iff]
 simp only[qQ,bL,decide_eq_true_eq,List.length_append,List.length_singleton,bW]
 constructor
 ·rintro⟨h1,h2⟩
  refine⟨by omega,?_⟩
  have:=h2 c.length (by omega)
  rwa[eh (by simp),List.getElem_append_right (Nat.le_refl _),List.getElem_singleton]at this
 ·rintro⟨h1,h2⟩
  refine⟨by omega,λi hi=>?_⟩
  rcases Nat.lt_or_ge i c.length with h|h
  ·rw[eh (by simp;omega),List.getElem_append_left h,<-eh h]
   exact hc.2 i h
  ·have:i=c.length:=by omega
   subst this
   rwa[eh (by simp),List.getElem_append_right (Nat.le_refl _),List.getElem_singleton]
theorem asN(id aV n:Int)(ls:List bH)(ts:List bZ)(hd:List Int)(st:List ay)(es:List cO)(h1:ls.length<=1048576)(h2:ts.length<=1048576)(h3:hd.length<=1048576)(h4:st.length<=1048576)(h5:aQ st)(h6:es.length<=1048576):
  CW [ii id,ii aV,ii n,.l (ls.map cT),.l (ts.map dj),.l (hd.map aE),.l (st.map aw),.l (es.map bG)]=some [bb (j5 ⟨⟨id,aV,⟨n,ls,ts⟩,hd,st⟩,es⟩)]:=by
 rw[asf];simp(disch:=omega) only[↓pq,↓pj,ps,pz,↓reduceIte,af,ah,ai,aj,ak,ap,aq,au,av,QL,QM,Om,C7 _ _ _ _ _ _ _ h1 h2 h3 h4 h5]
 cases hs:jf ⟨id,aV,⟨n,ls,ts⟩,hd,st⟩with
 |false=>simp[j5,hs]
 |true=>
  have hn:1<=n∧n<=6:=aca hs
  have hw:=Hb ls id n hn.2
  have hb:=OC es
  have hz:du (kj n) iC ls=true:=by simp only[jf,n7,bL]at hs;exact hs.1.1.2
  simp only[not_true_eq_false,if_false]
  have Ja:qQ es []=true:=by simp[qQ,ke]
  refine(Lz n.toNat (λi (c:List cO)=>[bb false,ii c.length,ii (i+1)]) (λi c=>qQ es (vz ls id c i)) (vz ls id) (λc=>if(c.length:Int)=es.length then some [bb (zm hd (iK es))]else some [bb false]) (fF:=some [bb false]) [] (λi c=>qQ es c=true∧c.length<=3*i) rfl (c_ (by omega)) ⟨Ja,by simp⟩ ?_ ?_).trans ?_
  ·intro i c hi hc
   refine⟨λh=>⟨h,by have:=Ha ls id c i;omega⟩,λs=>?_⟩
   have aU:(i:Int)+1<=n:=by omega
   simp(disch:=omega) only[↓pq,↓pj,ps,pz,↓reduceIte,af,ah,ai,aj,ak,ap,aq,au,av,QL,QM,aU]
   refine(Lz 3 (λa (c:List cO)=>[bb false,ii c.length,ii a]) (λa c=>qQ es (mI ls id i c a)) (mI ls id i) (λc=>s [bb false,ii c.length,ii ((i+1:Nat)+1)]) (fF:=some [bb false]) c (λa c=>qQ es c=true∧c.length<=3*i+a) rfl (by unfold rounds;omega) ⟨hc.1,by omega⟩ ?_ ?_).trans ?_
   ·intro a c ha hc
    refine⟨λh=>⟨h,by have:=QR ls id i c a;omega⟩,λs=>?_⟩
    have tI:(a:Int)<=2:=by omega
    have Ql:=QQ hz id (i+1) a
    simp(disch:=omega) only[↓pq,↓pj,ps,pz,↓reduceIte,af,ah,ai,aj,ak,ap,aq,au,av,QL,QM,tI,I_,vx]
    unfold mI
    by_cases hf:0<=dJ (eE id (i+1) a) ls
    ·have dU:¬(lg ls id (i+1) a=0):=by omega
     have hlen:=asM (w:=⟨(i:Int)+1,a,0,false⟩) hc.1
     simp only[hf,if_true,hlen,dU,if_false,List.length_append,List.length_singleton,B7,B8]
     have Fe:((c.length:Int)>=es.length)=¬(c.length<es.length):=by simp only[eq_iff_iff];omega
     unfold zn
     grind
    ·have dU:lg ls id (i+1) a=0:=by omega
     simp only[hf,if_false,hc.1,if_true,dU]
   ·intro c s' hc
    simp(disch:=omega) only[↓pq,↓pj,ps,pz,↓reduceIte,af,ah,ai,aj,ak,ap,aq,au,av,QL,QM,]
   ·rw[VC (qQ es) (λc i=>Hc) (λi c _ _=>rfl) hc.1]
    have e:(List.range 3).foldl (mI ls id i) c=vz ls id c i:=rfl
    rw[e]
    cases hp:qQ es (vz ls id c i)with
    |true=>simp only[if_true,B7,B8]
    |false=>simp
  ·intro c s hc
   have aU:¬((n.toNat:Int)+1<=n):=by omega
   simp(disch:=omega) only[↓pq,↓pj,ps,pz,↓reduceIte,af,ah,ai,aj,ak,ap,aq,au,av,QL,QM,aU,OE _ h6,asJ]
  ·rw[VC (qQ es) (λc i=>asL) (λi c _ _=>rfl) Ja]
   have ln:zm hd (iK es)=zm (iK es) hd:=by rw[Bool.eq_iff_iff,jC,jC];exact eq_comm
   have hk:AB es (nM ls id n)=(qQ es (nM ls id n)&&decide (((nM ls id n).length:Int)=es.length)):=by
    unfold AB qQ
    by_cases hl:((nM ls id n).length:Int)=es.length
    ·rw[show es.length=(nM ls id n).length by omega];simp
    ·simp[hl]
   have e:(List.range n.toNat).foldl (vz ls id) []=nM ls id n:=rfl
   rw[e,ln]
   unfold j5
   simp only[hs,hk,Bool.true_and]
   by_cases hp:qQ es (nM ls id n)=true
   ·by_cases hl:((nM ls id n).length:Int)=es.length<;>simp[hp,hl]
   ·simp[hp]
structure acb (ns:List Node):Prop where
 len:∀n∈ns,n.self.store.length<=1048576
 aX:∀n∈ns,aQ n.self.store
 heard:∀n∈ns,n.self.heard.length<=1048576
theorem Jb(a k o y s:Int)(l:List cC)(c:Int)(f:Bool)(h:l.length<=1048576):zb [ii a,ii k,ii o,ii y,ii s,.l (l.map eJ),ii c,bb f]=some [ii a,ii k,ii o,ii y,ii s,.l (l.map eJ),ii c,bb f]:=by
 rw[aqG];simp(disch:=omega) only[↓pq,↓pj,ps,pz,↓reduceIte,af,ah,ai,aj,ak,ap,aq,au,av,NH]
theorem AC(a k o y s:Int)(l:List cC)(c:Int)(f:Bool)(h:l.length<=1048576):sJ [ii a,ii k,ii o,ii y,ii s,.l (l.map eJ),ii c,bb f]=some [ii a,ii k,ii o,ii y,ii s,.l (l.map eJ),ii c,bb f]:=by
 rw[apf];simp(disch:=omega) only[↓pq,↓pj,ps,pz,↓reduceIte,af,ah,ai,aj,ak,ap,aq,au,av,M6]
def n8(ar:Int)(r:ay):Bool:=r.ae==ar||r.ae==9
def scope(s:List ay)(ar:Int):List ay:=s.filter (n8 ar)
theorem C8(s:List ay)(ar:Int)(h:s.length<=1048576)(hn:aQ s):Gn [.l (s.map aw),ii ar]=some [.l ((scope s ar).map aw)]:=by
 rw[arL];simp(disch:=omega) only[↓pq,↓pj,ps,pz,↓reduceIte,af,ah,ai,aj,ak,ap,aq,au,av,GZ,Oc]
 refine(gO s (λi c=>[.l (c.map aw),ii i]) (λc a=>if n8 ar a=true then c++[a]else c) (λc=>some [T.l (c.map aw)]) [] (λi c=>c.length<=i) rfl (c_ h) (by simp) ?_ ?_).trans (by rw[y9,List.nil_append,<-scope])
 ·intro i c hi hc
  refine⟨by split<;>(try simp)<;>omega,λk=>?_⟩
  have:=hn.gt (n:=i) (by omega) hi
  simp(disch:=omega) only[↓pq,↓pj,ps,pz,↓reduceIte,af,ah,ai,aj,ak,ap,aq,au,av,GZ,hi,Jb]
  unfold n8
  grind
 ·intro c k hc
  simp(disch:=omega) only[↓pq,↓pj,ps,pz,↓reduceIte,af,ah,ai,aj,ak,ap,aq,au,av,GZ,]
theorem zo(s:List ay)(ar:Int)(h:s.length<=1048576)(hn:aQ s):wI [.l (s.map aw),ii ar]=some [.l ((scope s ar).map aw)]:=by
 rw[apQ];simp(disch:=omega) only[↓pq,↓pj,ps,pz,↓reduceIte,af,ah,ai,aj,ak,ap,aq,au,av,GI,Ni]
 refine(gO s (λi c=>[.l (c.map aw),ii i]) (λc a=>if n8 ar a=true then c++[a]else c) (λc=>some [T.l (c.map aw)]) [] (λi c=>c.length<=i) rfl (c_ h) (by simp) ?_ ?_).trans (by rw[y9,List.nil_append,<-scope])
 ·intro i c hi hc
  refine⟨by split<;>(try simp)<;>omega,λk=>?_⟩
  have:=hn.gt (n:=i) (by omega) hi
  simp(disch:=omega) only[↓pq,↓pj,ps,pz,↓reduceIte,af,ah,ai,aj,ak,ap,aq,au,av,GI,hi,AC]
  unfold n8
  grind
 ·intro c k hc
  simp(disch:=omega) only[↓pq,↓pj,ps,pz,↓reduceIte,af,ah,ai,aj,ak,ap,aq,au,av,GI,]
theorem acd(s:List ay)(ar:Int):(scope s ar).length<=s.length:=List.length_filter_le _ _
theorem He(s:List ay)(a k o y:Int)(t4 t5 t6 t7:T)(h:s.length<=1048576):rI [.l (s.map aw),ii a,ii k,ii o,ii y,t4,t5,t6,t7]=some [ii (dJ (λx=>dS x ⟨a,k,o,y,0,[],0,false⟩) s)]:=by
 rw[ard];simp(disch:=omega) only[↓pq,↓pj,ps,pz,↓reduceIte,af,ah,ai,aj,ak,ap,aq,au,av,GU,NZ]
 refine(D9 s (λi=>[ii 0,ii i]) (λx=>dS x ⟨a,k,o,y,0,[],0,false⟩) (λi=>some [ii i]) (ku:=some [ii (-1)]) rfl (c_ h) ?_ ?_).trans (Ou _ _)
 ·intro i hi q
  simp(disch:=omega) only[↓pq,↓pj,ps,pz,↓reduceIte,af,ah,ai,aj,ak,ap,aq,au,av,GU,hi,Ow]
  rfl
 ·intro q
  simp(disch:=omega) only[↓pq,↓pj,ps,pz,↓reduceIte,af,ah,ai,aj,ak,ap,aq,au,av,GU,]
theorem C9(s:List ay)(a k o y:Int)(t4 t5 t6 t7:T)(h:s.length<=1048576):xB [.l (s.map aw),ii a,ii k,ii o,ii y,t4,t5,t6,t7]=some [ii (dJ (λx=>dS x ⟨a,k,o,y,0,[],0,false⟩) s)]:=by
 rw[aoJ];simp(disch:=omega) only[↓pq,↓pj,ps,pz,↓reduceIte,af,ah,ai,aj,ak,ap,aq,au,av,Gv,MP]
 refine(D9 s (λi=>[ii 0,ii i]) (λx=>dS x ⟨a,k,o,y,0,[],0,false⟩) (λi=>some [ii i]) (ku:=some [ii (-1)]) rfl (c_ h) ?_ ?_).trans (Ou _ _)
 ·intro i hi q
  simp(disch:=omega) only[↓pq,↓pj,ps,pz,↓reduceIte,af,ah,ai,aj,ak,ap,aq,au,av,Gv,hi,ab8]
  rfl
 ·intro q
  simp(disch:=omega) only[↓pq,↓pj,ps,pz,↓reduceIte,af,ah,ai,aj,ak,ap,aq,au,av,Gv,]
def bA(s:List ay)(r:ay):Int:=dJ (λx=>dS x r) s
theorem wM(s:List ay)(r:ay):dJ (λx=>dS x ⟨r.ae,r.kind,r.owner,r.key,0,[],0,false⟩) s=bA s r:=rfl
theorem Hf(s:List ay)(h:s.length<=1048576)(hn:aQ s):CE [.l (s.map aw)]=some [.l (s.map aw)]:=by
 rw[aqI];simp(disch:=omega) only[↓pq,↓pj,ps,pz,↓reduceIte,af,ah,ai,aj,ak,ap,aq,au,av,qe_,NI]
 refine(gO s (λi c=>[.l (c.map aw),ii i]) (λc a=>c++[id a]) (λc=>some [T.l (c.map aw)]) [] (λi c=>c.length<=i) rfl (c_ h) (by simp) ?_ ?_).trans (show some [T.l ((s.foldl (λc a=>c++[id a]) []).map aw)]=some [T.l (s.map aw)] by rw[foldl_map];simp)
 ·intro i c hi hc
  refine⟨by simp;omega,λk=>?_⟩
  have:=hn.gt (n:=i) (by omega) hi
  simp(disch:=omega) only[↓pq,↓pj,ps,pz,↓reduceIte,af,ah,ai,aj,ak,ap,aq,au,av,qe_,hi,Jb]
  rfl
 ·intro c k hc
  simp(disch:=omega) only[↓pq,↓pj,ps,pz,↓reduceIte,af,ah,ai,aj,ak,ap,aq,au,av,qe_,]
theorem Ek(s:List ay)(h:s.length<=1048576)(hn:aQ s):tv [.l (s.map aw)]=some [.l (s.map aw)]:=by
 rw[aph];simp(disch:=omega) only[↓pq,↓pj,ps,pz,↓reduceIte,af,ah,ai,aj,ak,ap,aq,au,av,u1_,M7]
 refine(gO s (λi c=>[.l (c.map aw),ii i]) (λc a=>c++[id a]) (λc=>some [T.l (c.map aw)]) [] (λi c=>c.length<=i) rfl (c_ h) (by simp) ?_ ?_).trans (show some [T.l ((s.foldl (λc a=>c++[id a]) []).map aw)]=some [T.l (s.map aw)] by rw[foldl_map];simp)
 ·intro i c hi hc
  refine⟨by simp;omega,λk=>?_⟩
  have:=hn.gt (n:=i) (by omega) hi
  simp(disch:=omega) only[↓pq,↓pj,ps,pz,↓reduceIte,af,ah,ai,aj,ak,ap,aq,au,av,u1_,hi,AC]
  rfl
 ·intro c k hc
  simp(disch:=omega) only[↓pq,↓pj,ps,pz,↓reduceIte,af,ah,ai,aj,ak,ap,aq,au,av,u1_,]
def cM(s:List ay)(r:ay):List ay:=s.filter (λx=>fC x r)++([r]++s.filter (λx=>fC r x))
abbrev ig(s:List ay):Prop:=s.Pairwise λa b=>fC a b=true
theorem Hg{a b c:ay}(h:fC a b=true)(h':fC b c=true):fC a c=true:=by rw[pG]at *;omega
theorem Hh(a:ay):fC a a=false:=by
 cases h:fC a a with
 |false=>rfl
 |true=>rw[pG]at h;omega
theorem C_{a b:ay}(h:fC a b=true):fC b a=false:=by
 cases h':fC b a with
 |false=>rfl
 |true=>rw[pG]at *;omega
theorem qK_{a b:ay}(h:fC a b=true):dS a b=false:=by
 cases h':dS a b with
 |false=>rfl
 |true=>rw[pG]at h;rw[sameKey_iff]at h';omega
theorem acf{a b:ay}(h:fC a b=false)(h':dS a b=false):fC b a=true:=by
 have h1:¬(fC a b=true):=by rw[h];decide
 have h2:¬(dS a b=true):=by rw[h'];decide
 rw[pG]at h1⊢
 rw[sameKey_iff]at h2
 omega
theorem acg{a b r:ay}(h:dS a b=true):fC a r=fC b r∧fC r a=fC r b:=by
 rw[sameKey_iff]at h
 constructor
 ·rw[Bool.eq_iff_iff,pG,pG];omega
 ·rw[Bool.eq_iff_iff,pG,pG];omega
theorem asO{s:List ay}(h:du eP fC s=true):ig s:=by
 have h:=bW.1 h
 rw[ig,List.pairwise_iff_getElem]
 have step:∀i,(hi:i+1<s.length)->fC s[i] s[i+1]=true:=by
  intro i hi
  have:=h (i+1) hi
  simp only[bL,Bool.or_eq_true,Bool.not_eq_true',decide_eq_false_iff_not]at this
  have h2:=this.2.resolve_left (by omega)
  rwa[show(((i+1:Nat):Int)-1)=(i:Int) by omega,eh (by omega),eh hi]at h2
 intro i j hi hj oI
 obtain⟨d,rfl⟩:∃d,j=i+1+d:=⟨j-i-1,by omega⟩
 clear oI
 induction d with
 |zero=>exact step i (by omega)
 |succ d ih=>exact Hg (ih (by omega)) (step (i+1+d) (by omega))
theorem qR{s:List ay}(h:dv s=true):ig s:=by
 simp only[dv,bL]at h;exact asO h.2
theorem Jc{s:List ay}(h:ig s)(r:ay):ig (cM s r):=by
 unfold cM ig
 rw[List.pairwise_append]
 refine⟨h.filter _,?_,?_⟩
 ·rw[List.pairwise_append]
  refine⟨by simp,h.filter _,?_⟩
  intro a ha b hb
  rw[List.mem_singleton]at ha
  subst ha
  exact(List.mem_filter.1 hb).2
 ·intro a ha b hb
  have ha:=(List.mem_filter.1 ha).2
  rcases List.mem_append.1 hb with hb|hb
  ·rw[List.mem_singleton]at hb
   subst hb;exact ha
  ·exact Hg ha (List.mem_filter.1 hb).2
theorem Hi(s:List ay)(r:ay):(cM s r).length<=s.length+1:=by
 unfold cM
 have:(s.filter (λx=>fC x r)).length+(s.filter (λx=>fC r x)).length<=s.length:=by
  induction s with
  |nil=>simp
  |cons x s ih=>
   simp only[List.filter_cons]
   cases h:fC x r with
   |true=>simp[C_ h];omega
   |false=>cases h':fC r x<;>simp<;>omega
 simp;omega
theorem wN{s:List ay}{r x:ay}(h:x∈cM s r):x=r∨x∈s:=by
 unfold cM at h
 rcases List.mem_append.1 h with h|h
 ·exact .inr (List.mem_filter.1 h).1
 ·rcases List.mem_append.1 h with h|h
  ·exact .inl (List.mem_singleton.1 h)
  ·exact .inr (List.mem_filter.1 h).1
theorem OH{s:List ay}{r:ay}(h:aQ s)(hr:r.aX.length<=1048576):aQ (cM s r):=λx hx=>by
 rcases wN hx with rfl|hx
 ·exact hr
 ·exact h x hx
def jD(s:List ay)(r:ay):Nat:=(s.filter (λx=>fC x r)).length
theorem asP(s:List ay)(r:ay):jD s r<=s.length:=List.length_filter_le _ _
theorem ach{s:List ay}(h:ig s)(r:ay):s.take (jD s r)=s.filter (λx=>fC x r)∧(∀i,(hi:i<s.length)->(fC s[i] r=true↔i<jD s r)):=by
 induction s with
 |nil=>simp[jD]
 |cons x s ih=>
  have hs:=List.pairwise_cons.1 h
  have ih:=ih hs.2
  cases hx:fC x r with
  |true=>
   have e:jD (x::s) r=jD s r+1:=by simp[jD,List.filter_cons,hx]
   rw[e]
   refine⟨by rw[List.take_succ_cons,ih.1,List.filter_cons,hx];rfl,λi hi=>?_⟩
   cases i with
   |zero=>simp[hx]
   |succ i=>
    rw[List.getElem_cons_succ]
    have:=ih.2 i (by simpa using hi)
    rw[this];omega
  |false=>
   have none:∀y∈s,fC y r=false:=by
    intro y hy
    cases hyr:fC y r with
    |false=>rfl
    |true=>rw[Hg (hs.1 y hy) hyr]at hx;cases hx
   have e:(x::s).filter (λx=>fC x r)=[]:=by
    rw[List.filter_eq_nil_iff]
    intro y hy
    rcases List.mem_cons.1 hy with rfl|hy
    ·rw[hx];decide
    ·rw[none y hy];decide
   have e2:jD (x::s) r=0:=by unfold jD;rw[e];rfl
   rw[e2,e]
   refine⟨rfl,λi hi=>⟨λh3=>?_,λh3=>absurd h3 (by omega)⟩⟩
   cases i with
   |zero=>rw[List.getElem_cons_zero,hx]at h3;cases h3
   |succ i=>rw[List.getElem_cons_succ,none _ (List.getElem_mem _)]at h3;cases h3
theorem asQ{s:List ay}(h:ig s)(r:ay):s.drop (jD s r+(if jD s r<s.length∧dS (gt s (jD s r:Nat)) r=true then 1 else 0))=s.filter (λx=>fC r x):=by
 have ko:=ach h r
 have h1:s.filter (λx=>fC r x)=(s.drop (jD s r)).filter (λx=>fC r x):=by
  have e0:s.filter (λx=>fC r x)=(s.take (jD s r)++s.drop (jD s r)).filter (λx=>fC r x):=by rw[List.take_append_drop]
  rw[e0,List.filter_append,ko.1]
  have e:(List.filter (λx=>fC x r) s).filter (λx=>fC r x)=[]:=by
   rw[List.filter_eq_nil_iff]
   intro y hy
   rw[C_ (List.mem_filter.1 hy).2];decide
  rw[e,List.nil_append]
 rw[h1]
 have hd:∀x∈s.drop (jD s r),fC x r=false:=by
  intro x hx
  obtain⟨i,hi,rfl⟩:=List.mem_iff_getElem.1 hx
  rw[List.getElem_drop]
  cases hc:fC (s[jD s r+i]'(by simp at hi;omega)) r with
  |false=>rfl
  |true=>have:=(ko.2 _ (by simp at hi;omega)).1 hc;omega
 have hp:ig (s.drop (jD s r)):=h.drop
 by_cases bC:jD s r<s.length
 ·have hg:=eh bC
  rw[hg]
  rw[List.drop_eq_getElem_cons bC]at hd hp⊢
  have Ad:=List.pairwise_cons.1 hp
  by_cases hk:dS s[jD s r] r=true
  ·rw[if_pos ⟨bC,hk⟩,List.filter_cons,(acg hk).2▸Hh r|>λ(e:fC r s[jD s r]=false)=>e,if_neg (by decide)]
   refine(List.filter_eq_self.2 λx hx=>?_).symm
   rw[<-(acg hk).1]
   exact Ad.1 x hx
  ·rw[if_neg (by simp[hk]),Nat.add_zero,List.drop_eq_getElem_cons bC]
   refine(List.filter_eq_self.2 λx hx=>?_).symm
   have h0:=acf (hd _ (.head _)) (by simpa using hk)
   rcases List.mem_cons.1 hx with rfl|hx
   ·exact h0
   ·exact Hg h0 (Ad.1 x hx)
 ·rw[List.drop_eq_nil_iff.2 (by omega),List.drop_eq_nil_iff.2 (by omega)]
  rfl
theorem aQ.take{s:List ay}(h:aQ s)(n:Nat):aQ (s.take n):=λr hr=>h r (List.mem_of_mem_take hr)
theorem aQ.drop{s:List ay}(h:aQ s)(n:Nat):aQ (s.drop n):=λr hr=>h r (List.mem_of_mem_drop hr)
theorem C'{β σ:Type}{F:(σ->Option β)->σ->Option β}{R:Nat}{x:σ}(st:Nat->σ)(n:Nat){out:Option β}(hx:x=st 0)(hR:n<R)(step:∀i:Nat,(i:Int)<(n:Int)->∀s,F s (st i)=s (st (i+1)))(fin:∀s,F s (st n)=out):iter F R x=out:=by
 have:=sH (F:=F) (R:=R) (x:=x) n st (λ_=>true) (gV:=out) (fF:=out) hx hR (λi hi s=>by simpa using step i hi s) fin
 rw[this];simp
theorem Da(s:List ay)(a k o y q:Int)(l:List cC)(c:Int)(f:Bool)(h:s.length<=1048570)(hn:aQ s)(hs:ig s)(hl:l.length<=1048576):
  sM [.l (s.map aw),ii a,ii k,ii o,ii y,ii q,.l (l.map eJ),ii c,bb f]=some [.l ((cM s ⟨a,k,o,y,q,l,c,f⟩).map aw)]:=by
 obtain⟨r,hr⟩:∃r:ay,r=⟨a,k,o,y,q,l,c,f⟩:=⟨_,rfl⟩
 have hle:=asP s r
 have ko:=ach hs r
 have Ag:=asQ hs r
 rw[aq9];simp(disch:=omega) only[↓pq,↓pj,ps,pz,↓reduceIte,af,ah,ai,aj,ak,ap,aq,au,av,NV,NW]
 refine C' (λi=>[ii i]) (jD s r) rfl (c_ (by omega)) ?_ ?_
 ·intro i hi w
  have aU:(i:Int)<s.length:=by omega
  have hb:fC (gt s i) r=true:=by rw[eh (by omega)];exact(ko.2 i (by omega)).2 (by omega)
  have km:fC ⟨(gt s i).ae,(gt s i).kind,(gt s i).owner,(gt s i).key,0,[],0,false⟩ ⟨a,k,o,y,0,[],0,false⟩=true:=by rw[<-hb,hr];rfl
  simp(disch:=omega) only[↓pq,↓pj,ps,pz,↓reduceIte,af,ah,ai,aj,ak,ap,aq,au,av,NV,aU,Ox,km]
 ·intro w
  have ht:((jD s r:Nat):Int).toNat=jD s r:=Int.toNat_natCast _
  have pi:(s.take (jD s r)).length<=1048570:=by simp;omega
  by_cases bC:jD s r<s.length
  ·have aU:((jD s r:Nat):Int)<s.length:=by omega
   have hb:fC (gt s (jD s r:Nat)) r=false:=by
    rw[eh bC]
    cases hc:fC s[jD s r] r with
    |false=>rfl
    |true=>have:=(ko.2 _ bC).1 hc;omega
   have km:fC ⟨(gt s (jD s r:Nat)).ae,(gt s (jD s r:Nat)).kind,(gt s (jD s r:Nat)).owner,(gt s (jD s r:Nat)).key,0,[],0,false⟩ ⟨a,k,o,y,0,[],0,false⟩=false:=by rw[<-hb,hr];rfl
   have mf:dS ⟨(gt s (jD s r:Nat)).ae,(gt s (jD s r:Nat)).kind,(gt s (jD s r:Nat)).owner,(gt s (jD s r:Nat)).key,0,[],0,false⟩ ⟨a,k,o,y,0,[],0,false⟩=dS (gt s (jD s r:Nat)) r:=by rw[hr];rfl
   simp(disch:=omega) only[↓pq,↓pj,ps,pz,↓reduceIte,af,ah,ai,aj,ak,ap,aq,au,av,NV,aU,Ox,km,ht,Hf _ (show(s.take (jD s r)).length<=1048576 by omega) (hn.take _),Jb,Ow,mf,cE]
   cases hk:dS (gt s (jD s r:Nat)) r with
   |true=>
    have JS:(((jD s r:Nat):Int)+1).toNat=jD s r+1:=by omega
    have hd:=Hf (s.drop (jD s r+1)) (by simp;omega) (hn.drop _)
    rw[if_pos ⟨bC,hk⟩]at Ag
    simp only[if_true]
    simp(disch:=omega) only[↓pq,↓pj,ps,pz,↓reduceIte,af,ah,ai,aj,ak,ap,aq,au,av,NV,JS,hd]
    rw[Vi (by simp;omega),gN,Ag,ko.1,<-hr,List.append_assoc]
    rfl
   |false=>
    have hd:=Hf (s.drop (jD s r)) (by simp;omega) (hn.drop _)
    rw[if_neg (by simp[hk]),Nat.add_zero]at Ag
    simp only[cE,if_false]
    simp(disch:=omega) only[↓pq,↓pj,ps,pz,↓reduceIte,af,ah,ai,aj,ak,ap,aq,au,av,NV,ht,hd]
    rw[Vi (by simp;omega),gN,Ag,ko.1,<-hr,List.append_assoc]
    rfl
  ·have aU:¬(((jD s r:Nat):Int)<s.length):=by omega
   have hd:=Hf (s.drop (jD s r)) (by simp;omega) (hn.drop _)
   rw[if_neg (by simp[bC]),Nat.add_zero]at Ag
   simp(disch:=omega) only[↓pq,↓pj,ps,pz,↓reduceIte,af,ah,ai,aj,ak,ap,aq,au,av,NV,aU,ht,Hf _ (show(s.take (jD s r)).length<=1048576 by omega) (hn.take _),Jb,hd]
   rw[Vi (by simp;omega),gN,Ag,ko.1,<-hr,List.append_assoc]
   rfl
theorem Jd(s:List ay)(a k o y q:Int)(l:List cC)(c:Int)(f:Bool)(h:s.length<=1048570)(hn:aQ s)(hl:l.length<=1048576):
  rH [.l (s.map aw),ii a,ii k,ii o,ii y,ii q,.l (l.map eJ),ii c,bb f]=some [.l ((cM s ⟨a,k,o,y,q,l,c,f⟩).map aw)]:=by
 obtain⟨r,hr⟩:∃r:ay,r=⟨a,k,o,y,q,l,c,f⟩:=⟨_,rfl⟩
 have hb:∀x:ay,fC ⟨x.ae,x.kind,x.owner,x.key,0,[],0,false⟩ ⟨a,k,o,y,0,[],0,false⟩=fC x r:=λx=>by rw[hr];rfl
 have km:∀x:ay,fC ⟨a,k,o,y,0,[],0,false⟩ ⟨x.ae,x.kind,x.owner,x.key,0,[],0,false⟩=fC r x:=λx=>by rw[hr];rfl
 rw[aox];simp(disch:=omega) only[↓pq,↓pj,ps,pz,↓reduceIte,af,ah,ai,aj,ak,ap,aq,au,av,QD,QE,MJ]
 refine(gO s (λi c=>[.l (c.map aw),ii i]) (λc x=>if fC x r=true then c++[x]else c) (λd=>some [T.l ((s.foldl (λc x=>if fC r x=true then c++[x]else c) (d++[r])).map aw)]) [] (λi c=>c.length<=i) rfl (c_ (by omega)) (by simp) ?_ ?_).trans ?_
 ·intro i c hi hc
  refine⟨by split<;>(try simp)<;>omega,λw=>?_⟩
  have:=hn.gt (n:=i) (by omega) hi
  simp(disch:=omega) only[↓pq,↓pj,ps,pz,↓reduceIte,af,ah,ai,aj,ak,ap,aq,au,av,QD,QE,hi,Oy,hb]
  split<;>rfl
 ·intro d w hd
  simp(disch:=omega) only[↓pq,↓pj,ps,pz,↓reduceIte,af,ah,ai,aj,ak,ap,aq,au,av,QD,QE,]
  rw[<-hr]
  refine gO s (λi c=>[.l (c.map aw),ii i]) (λc x=>if fC r x=true then c++[x]else c) (λc=>some [T.l (c.map aw)]) (d++[r]) (λi c=>c.length<=d.length+1+i) rfl (c_ (by omega)) (by simp) ?_ ?_
  ·intro i c hi hc
   refine⟨by split<;>(try simp)<;>omega,λw=>?_⟩
   have:=hn.gt (n:=i) (by omega) hi
   simp(disch:=omega) only[↓pq,↓pj,ps,pz,↓reduceIte,af,ah,ai,aj,ak,ap,aq,au,av,QD,QE,hi,Oy,km]
   split<;>rfl
  ·intro c w hc
   simp(disch:=omega) only[↓pq,↓pj,ps,pz,↓reduceIte,af,ah,ai,aj,ak,ap,aq,au,av,QD,QE,]
 ·rw[y9,y9,<-hr]
  unfold cM
  simp
theorem asR{s:List ay}{r:ay}{n:Nat}(h:s.length+1<=n):(cM s r).length<=n:=Nat.le_trans (Hi s r) h
def vA:List Int:=[1,2,3,4,5,6]
def gk(l:List Int):Prop:=l.Pairwise (· < ·)∧∀x∈l,1<=x∧x<=6
theorem Hj:∀{a b:List Int},a.Pairwise (· < ·)->b.Pairwise (· < ·)->(∀x,x∈a↔x∈b)->a=b
 | [],[],_,_,_=>rfl
 | [],y::b,_,_,h=>absurd ((h y).2 (.head _)) (by simp)
 |x::a,[],_,_,h=>absurd ((h x).1 (.head _)) (by simp)
 |x::a,y::b,ha,hb,h=>by
  have tI:=List.pairwise_cons.1 ha
  have km:=List.pairwise_cons.1 hb
  have Kf:x=y:=by
   rcases List.mem_cons.1 ((h x).1 (.head _))with e|e
   ·exact e
   ·rcases List.mem_cons.1 ((h y).2 (.head _))with e'|e'
    ·exact e'.symm
    ·have:=km.1 x e;have:=tI.1 y e';omega
  subst Kf
  have:a=b:=Hj tI.2 km.2 λz=>by
   constructor
   ·intro hz
    rcases List.mem_cons.1 ((h z).1 (.tail _ hz))with e|e
    ·subst e;have:=tI.1 z hz;omega
    ·exact e
   ·intro hz
    rcases List.mem_cons.1 ((h z).2 (.tail _ hz))with e|e
    ·subst e;have:=km.1 z hz;omega
    ·exact e
  rw[this]
def zp(a b:List Int):List Int:=vA.filter λx=>a.contains x||b.contains x
theorem nN:vA.Pairwise (· < ·):=by unfold vA;simp
theorem Hk(a b:List Int):gk (zp a b):=by
 refine⟨nN.filter _,λx hx=>?_⟩
 have:=(List.mem_filter.1 hx).1
 simp[vA]at this
 omega
theorem iD{x:Int}:x∈vA↔1<=x∧x<=6:=by simp[vA];omega
theorem Hl{a b:List Int}{x:Int}:x∈zp a b↔(1<=x∧x<=6)∧(x∈a∨x∈b):=by
 unfold zp
 rw[List.mem_filter,iD]
 simp
theorem aci{a:List Int}(h:gk a):zp [] a=a:=
 Hj (Hk _ _).1 h.1 λx=>by
  rw[Hl]
  exact⟨λh'=>h'.2.resolve_left (by simp),λh'=>⟨h.2 x h',.inr h'⟩⟩
theorem sT{a:List Int}(h:gk a):a.length<=6:=by
 have e:zp [] a=a:=aci h
 rw[<-e]
 exact List.length_filter_le _ _
theorem acj:gk []:=⟨.nil,by simp⟩
theorem Je{n:Int}(h:1<=n)(h':n<=6):gk [n]:=⟨by simp,by simp;omega⟩
theorem wO(l:List Int)(n:Int)(h:l.length<=1048576):CH [.l (l.map aE),ii n]=some [bb (l.contains n)]:=by
 rw[aq1];simp(disch:=omega) only[↓pq,↓pj,ps,pz,↓reduceIte,af,ah,ai,aj,ak,ap,aq,au,av,GS,NP]
 refine(D9 l (λi=>[bb false,ii i]) (λx=>x==n) (λ_=>some [bb true]) (ku:=some [bb false]) rfl (c_ h) ?_ ?_).trans ?_
 ·intro i hi q
  simp(disch:=omega) only[↓pq,↓pj,ps,pz,↓reduceIte,af,ah,ai,aj,ak,ap,aq,au,av,GS,hi]
 ·intro q
  simp(disch:=omega) only[↓pq,↓pj,ps,pz,↓reduceIte,af,ah,ai,aj,ak,ap,aq,au,av,GS,]
 ·rw[jR]
  congr 3
  by_cases hf:dJ (λx=>x==n) l<0
  ·rw[if_pos hf]
   have:=(D8 _ _).1 hf
   cases hc:l.contains n with
   |false=>rfl
   |true=>
    have hm:=List.contains_iff_mem.1 hc
    have:=this n hm
    simp at this
  ·rw[if_neg hf]
   have:=q_ _ _ (by omega:0<=dJ (λx=>x==n) l)
   have hm:=iT (l:=l) (n:=dJ (λx=>x==n) l) (by omega) (o5 _ _)
   rw[beq_iff_eq]at this
   rw[this]at hm
   exact(List.contains_iff_mem.2 hm).symm
theorem OI(l:List Int)(n:Int)(h:l.length<=1048576):LL [.l (l.map aE),ii n]=some [bb (l.contains n)]:=by
 rw[aoR];simp(disch:=omega) only[↓pq,↓pj,ps,pz,↓reduceIte,af,ah,ai,aj,ak,ap,aq,au,av,Gw,MT]
 refine(D9 l (λi=>[bb false,ii i]) (λx=>x==n) (λ_=>some [bb true]) (ku:=some [bb false]) rfl (c_ h) ?_ ?_).trans ?_
 ·intro i hi q
  simp(disch:=omega) only[↓pq,↓pj,ps,pz,↓reduceIte,af,ah,ai,aj,ak,ap,aq,au,av,Gw,hi]
 ·intro q
  simp(disch:=omega) only[↓pq,↓pj,ps,pz,↓reduceIte,af,ah,ai,aj,ak,ap,aq,au,av,Gw,]
 ·rw[jR]
  congr 3
  by_cases hf:dJ (λx=>x==n) l<0
  ·rw[if_pos hf]
   have:=(D8 _ _).1 hf
   cases hc:l.contains n with
   |false=>rfl
   |true=>
    have hm:=List.contains_iff_mem.1 hc
    have:=this n hm
    simp at this
  ·rw[if_neg hf]
   have:=q_ _ _ (by omega:0<=dJ (λx=>x==n) l)
   have hm:=iT (l:=l) (n:=dJ (λx=>x==n) l) (by omega) (o5 _ _)
   rw[beq_iff_eq]at this
   rw[this]at hm
   exact(List.contains_iff_mem.2 hm).symm
theorem re(l:List Int)(h:l.length<=1048576):sL [.l (l.map aE)]=some [.l (l.map aE)]:=by
 rw[aqE];simp(disch:=omega) only[↓pq,↓pj,ps,pz,↓reduceIte,af,ah,ai,aj,ak,ap,aq,au,av,NG]
theorem QS(a b:Int)(l:List Int)(h:l.length<=1048576):xC [ii a,ii b,.l (l.map aE)]=some [ii a,ii b,.l (l.map aE)]:=by
 rw[arl];simp(disch:=omega) only[↓pq,↓pj,ps,pz,↓reduceIte,af,ah,ai,aj,ak,ap,aq,au,av,N2,re]
theorem OJ(a b:Int)(l:List Int)(h:l.length<=1048576):LN [ii a,ii b,.l (l.map aE)]=some [ii a,ii b,.l (l.map aE)]:=by
 rw[aoX];simp(disch:=omega) only[↓pq,↓pj,ps,pz,↓reduceIte,af,ah,ai,aj,ak,ap,aq,au,av,MW]
def fb(l:List Way)(to:Int):Int:=dJ (λw=>w.to==to) l
theorem OK(l:List Way)(to:Int)(h:l.length<=1048576)(hl:∀w∈l,w.aW.length<=1048576):Mh [.l (l.map bB),ii to]=if fb l to<0 then some [ii 0,ii 0,.l [],bb false]else some (bB (gt l (fb l to))++[bb true]):=by
 rw[ars];simp(disch:=omega) only[↓pq,↓pj,ps,pz,↓reduceIte,af,ah,ai,aj,ak,ap,aq,au,av,GV,N5]
 refine D9 l (λi=>[bb false,ii i]) (λw=>w.to==to) (λi=>some (bB (gt l i)++[bb true])) (ku:=some [ii 0,ii 0,.l [],bb false]) rfl (c_ h) ?_ ?_
 ·intro i hi q
  have:=hl _ (iT (n:=i) (by omega) hi)
  simp(disch:=omega) only[↓pq,↓pj,ps,pz,↓reduceIte,af,ah,ai,aj,ak,ap,aq,au,av,GV,hi,QS]
  rfl
 ·intro q
  simp(disch:=omega) only[↓pq,↓pj,ps,pz,↓reduceIte,af,ah,ai,aj,ak,ap,aq,au,av,GV,]
theorem Hm(l:List Way)(to:Int)(h:l.length<=1048576)(hl:∀w∈l,w.aW.length<=1048576):Al [.l (l.map bB),ii to]=if fb l to<0 then some [ii 0,ii 0,.l [],bb false]else some (bB (gt l (fb l to))++[bb true]):=by
 rw[aoZ];simp(disch:=omega) only[↓pq,↓pj,ps,pz,↓reduceIte,af,ah,ai,aj,ak,ap,aq,au,av,Gx,MX]
 refine D9 l (λi=>[bb false,ii i]) (λw=>w.to==to) (λi=>some (bB (gt l i)++[bb true])) (ku:=some [ii 0,ii 0,.l [],bb false]) rfl (c_ h) ?_ ?_
 ·intro i hi q
  have:=hl _ (iT (n:=i) (by omega) hi)
  simp(disch:=omega) only[↓pq,↓pj,ps,pz,↓reduceIte,af,ah,ai,aj,ak,ap,aq,au,av,Gx,hi,OJ]
  rfl
 ·intro q
  simp(disch:=omega) only[↓pq,↓pj,ps,pz,↓reduceIte,af,ah,ai,aj,ak,ap,aq,au,av,Gx,]
def gq(c:List Int)(n:Int):List Int:=c.filter (λx=>decide (x<n))++([n]++c.filter (λx=>decide (n<x)))
def ei(c:List Int)(n:Int):Nat:=(c.filter (λx=>decide (x<n))).length
theorem Db(c:List Int)(n:Int):ei c n<=c.length:=List.length_filter_le _ _
theorem OL{c:List Int}(h:c.Pairwise (· < ·))(n:Int):c.take (ei c n)=c.filter (λx=>decide (x<n))∧c.drop (ei c n)=c.filter (λx=>decide (n<=x))∧∀i,(hi:i<c.length)->(c[i]<n↔i<ei c n):=by
 induction c with
 |nil=>simp[ei]
 |cons x c ih=>
  have hs:=List.pairwise_cons.1 h
  obtain⟨i1,i2,i3⟩:=ih hs.2
  by_cases hx:x<n
  ·have e:ei (x::c) n=ei c n+1:=by simp[ei,List.filter_cons,hx]
   have hx':¬n<=x:=by omega
   rw[e]
   refine⟨by rw[List.take_succ_cons,i1];simp[List.filter_cons,hx],by rw[List.drop_succ_cons,i2];simp[List.filter_cons,hx'],λi hi=>?_⟩
   cases i with
   |zero=>simp[hx]
   |succ i=>
    rw[List.getElem_cons_succ,i3 i (by simpa using hi)];omega
  ·have e1:(x::c).filter (λx=>decide (x<n))=[]:=by
    rw[List.filter_eq_nil_iff]
    intro y hy
    rcases List.mem_cons.1 hy with rfl|hy
    ·simp;omega
    ·have:=hs.1 y hy;simp;omega
   have e2:(x::c).filter (λx=>decide (n<=x))=x::c:=by
    rw[List.filter_eq_self]
    intro y hy
    rcases List.mem_cons.1 hy with rfl|hy
    ·simp;omega
    ·have:=hs.1 y hy;simp;omega
   have e:ei (x::c) n=0:=by unfold ei;rw[e1];rfl
   rw[e,e1,e2]
   refine⟨rfl,rfl,λi hi=>⟨λh3=>?_,λh3=>absurd h3 (by omega)⟩⟩
   cases i with
   |zero=>rw[List.getElem_cons_zero]at h3;omega
   |succ i=>
    rw[List.getElem_cons_succ]at h3
    have:=hs.1 _ (List.getElem_mem (by simpa using hi:i<c.length));omega
theorem jE{c:List Int}{n x:Int}:x∈gq c n↔x=n∨x∈c:=by
 unfold gq
 simp only[List.mem_append,List.mem_filter,List.mem_singleton,decide_eq_true_eq]
 constructor
 ·rintro(h|h|h)
  ·exact .inr h.1
  ·exact .inl h
  ·exact .inr h.1
 ·rintro(h|h)
  ·exact .inr (.inl h)
  ·rcases Int.lt_trichotomy x n with h'|h'|h'
   ·exact .inl ⟨h,h'⟩
   ·exact .inr (.inl h')
   ·exact .inr (.inr ⟨h,h'⟩)
theorem Ho{c:List Int}(h:c.Pairwise (· < ·))(n:Int):(gq c n).Pairwise (· < ·):=by
 unfold gq
 rw[List.pairwise_append,List.pairwise_append]
 refine⟨h.filter _,⟨by simp,h.filter _,?_⟩,?_⟩
 ·intro a ha b hb
  rw[List.mem_singleton]at ha
  have:=(List.mem_filter.1 hb).2
  simp at this;omega
 ·intro a ha b hb
  have ha:=(List.mem_filter.1 ha).2
  simp only[decide_eq_true_eq]at ha
  rcases List.mem_append.1 hb with hb|hb
  ·rw[List.mem_singleton]at hb;omega
  ·have hb:=(List.mem_filter.1 hb).2
   simp only[decide_eq_true_eq]at hb;omega
theorem asS{c:List Int}(h:gk c){n:Int}(h1:1<=n)(h2:n<=6):gk (gq c n):=
 ⟨Ho h.1 n,λx hx=>by rcases jE.1 hx with rfl|hx;exact⟨h1,h2⟩;exact h.2 x hx⟩
theorem Hp{c:List Int}(h:c.Pairwise (· < ·)){n:Int}(hn:n∈c):gq c n=c:=
 Hj (Ho h n) h λx=>by rw[jE];exact⟨λh=>h.elim (λe=>e▸hn) id,.inr⟩
theorem Jf{c:List Int}(h:c.Pairwise (· < ·)){n:Int}(hn:n∉c):gq c n=c.take (ei c n)++([n]++c.drop (ei c n)):=by
 obtain⟨h1,h2,_⟩:=OL h n
 rw[h1,h2]
 unfold gq
 congr 2
 refine List.filter_congr λx hx=>?_
 have:x≠n:=λe=>hn (e▸hx)
 have:(n<x)=(n<=x):=by simp only[eq_iff_iff];omega
 simp[this]
theorem Hq{c:List Int}(h:c.Pairwise (· < ·)){n:Int}(hl:ei c n<c.length):(gt c (ei c n:Nat)=n↔n∈c):=by
 obtain⟨_,h2,h3⟩:=OL h n
 rw[eh hl]
 constructor
 ·intro e;exact e▸List.getElem_mem hl
 ·intro hm
  obtain⟨j,hj,e⟩:=List.mem_iff_getElem.1 hm
  have h4:¬(j<ei c n):=λhc=>by have:=(h3 j hj).2 hc;omega
  have h5:¬(c[ei c n]<n):=λhc=>by have:=(h3 _ hl).1 hc;omega
  rcases Nat.lt_or_ge (ei c n) j with h6|h6
  ·have:=List.pairwise_iff_getElem.1 h _ _ hl hj h6
   omega
  ·have:j=ei c n:=by omega
   subst this;exact e
theorem Hr{c:List Int}(h:c.Pairwise (· < ·)){n:Int}(hl:¬ei c n<c.length):n∉c:=by
 obtain⟨_,_,h3⟩:=OL h n
 intro hm
 obtain⟨j,hj,e⟩:=List.mem_iff_getElem.1 hm
 have h4:¬(j<ei c n):=λhc=>by have:=(h3 j hj).2 hc;omega
 omega
def mw(a b:Way):Way:=if b.cost>a.cost then a else if a.cost>b.cost then b else⟨a.to,a.cost,zp a.aW b.aW⟩
theorem ack{l c:List Int}(hl:∀x∈l,1<=x∧x<=6)(hc:gk c):gk (l.foldl gq c)∧∀x,x∈l.foldl gq c↔x∈c∨x∈l:=by
 induction l generalizing c with
 |nil=>exact⟨hc,by simp⟩
 |cons n l ih=>
  have hn:=hl n (.head _)
  obtain⟨h1,h2⟩:=ih (λx hx=>hl x (.tail _ hx)) (asS hc hn.1 hn.2)
  refine⟨h1,λx=>?_⟩
  rw[List.foldl_cons,h2,jE,List.mem_cons]
  constructor
  ·rintro((h|h)|h)
   ·exact .inr (.inl h)
   ·exact .inl h
   ·exact .inr (.inr h)
  ·rintro(h|h|h)
   ·exact .inl (.inr h)
   ·exact .inl (.inl h)
   ·exact .inr h
def Hs(a b:Way):Way:=if b.cost>a.cost then a else if a.cost>b.cost then b else⟨a.to,a.cost,b.aW.foldl gq (a.aW.foldl gq [])⟩
theorem Ht(c:List Int)(n:Int):(gq c n).length<=c.length+1:=by
 have:∀c:List Int,(c.filter (λx=>decide (x<n))).length+(c.filter (λx=>decide (n<x))).length<=c.length:=by
  intro c
  induction c with
  |nil=>simp
  |cons x c ih=>by_cases h1:x<n<;>by_cases h2:n<x<;>simp[h1,h2]<;>omega
 have:=this c
 unfold gq
 simp only[List.length_append,List.length_singleton];omega
theorem asT(a b:Int)(l:List Int)(a' b':Int)(l':List Int)(hl:l.length<=50)(kW:l'.length<=50):zd [ii a,ii b,.l (l.map aE),ii a',ii b',.l (l'.map aE)]=some (bB (Hs ⟨a,b,l⟩ ⟨a',b',l'⟩)):=by
 rw[arn];simp(disch:=omega) only[↓pq,↓pj,ps,pz,↓reduceIte,af,ah,ai,aj,ak,ap,aq,au,av,xL,xM,xN,xO,N3,QS _ _ _ (show l.length<=1048576 by omega),QS _ _ _ (show l'.length<=1048576 by omega)]
 unfold Hs
 by_cases h1:b'>b
 ·simp only[h1,if_true];rfl
 by_cases h2:b>b'
 ·simp only[h1,h2,if_true,if_false];rfl
 simp only[h1,h2,if_false]
 have one:∀(c:List Int) (n:Int) (j:Nat) (s:List T->Option (List T)),c.length<=200->(j:Int)<100->∀{F:aA->aA},(∀k:Nat,∀w,(k:Int)<ei c n->F w [ii k]=w [ii (k+1)])->(∀w,F w [ii (ei c n)]=s [ii (j+1),.l ((gq c n).map aE)])->iter F rounds [ii 0]=s [ii (j+1),.l ((gq c n).map aE)]:=by
  intro c n j s hc hj F h1 h2
  have:=Db c n
  exact C' (λk=>[ii k]) (ei c n) rfl (c_ (by omega)) (λi hi w=>h1 i w hi) h2
 refine(gO l (λi c=>[ii i,.l (c.map aE)]) gq (λc=>some (bB ⟨a,b,l'.foldl gq c⟩)) [] (λi c=>c.Pairwise (· < ·)∧c.length<=i) rfl (c_ (by omega)) ⟨.nil,by simp⟩ ?_ ?_).trans ?_
 ·intro i c hi hc
  have tg:=hc.2
  refine⟨⟨Ho hc.1 _,by have:=Ht c (gt l i);omega⟩,λs=>?_⟩
  have hle:=Db c (gt l i)
  obtain⟨c1,c2,c3⟩:=OL hc.1 (gt l i)
  simp(disch:=omega) only[↓pq,↓pj,ps,pz,↓reduceIte,af,ah,ai,aj,ak,ap,aq,au,av,xL,xM,xN,xO,hi]
  refine one c (gt l i) i s (by omega) (by omega) ?_ ?_
  ·intro k w hk
   have fV:(k:Int)<c.length:=by omega
   have dh:gt c (k:Int)<gt l i:=by rw[eh (by omega)];exact(c3 k (by omega)).2 (by omega)
   simp(disch:=omega) only[↓pq,↓pj,ps,pz,↓reduceIte,af,ah,ai,aj,ak,ap,aq,au,av,xL,xM,xN,xO,fV,dh]
  ·intro w
   by_cases bC:ei c (gt l i)<c.length
   ·have fV:((ei c (gt l i):Nat):Int)<c.length:=by omega
    have dh:¬(gt c ((ei c (gt l i):Nat):Int)<gt l i):=by rw[eh bC];intro rC;have:=(c3 _ bC).1 rC;omega
    have jj:=Hq hc.1 bC
    by_cases jH:gt l i∈c
    ·rw[Hp hc.1 jH]
     have o9:=jj.2 jH
     simp(disch:=omega) only[↓pq,↓pj,ps,pz,↓reduceIte,af,ah,ai,aj,ak,ap,aq,au,av,xL,xM,xN,xO,fV,dh,o9]
    ·rw[Jf hc.1 jH]
     have o9:¬(gt c ((ei c (gt l i):Nat):Int)=gt l i):=λe=>jH (jj.1 e)
     simp(disch:=omega) only[↓pq,↓pj,ps,pz,↓reduceIte,af,ah,ai,aj,ak,ap,aq,au,av,xL,xM,xN,xO,fV,dh,o9,re _ (show(c.take (ei c (gt l i))).length<=1048576 by simp;omega)]
     rw[B6 (by simp;omega),gN,y7 (by simp;omega),gN,List.append_assoc]
   ·have fV:¬(((ei c (gt l i):Nat):Int)<c.length):=by omega
    rw[Jf hc.1 (Hr hc.1 bC)]
    simp(disch:=omega) only[↓pq,↓pj,ps,pz,↓reduceIte,af,ah,ai,aj,ak,ap,aq,au,av,xL,xM,xN,xO,fV,re _ (show(c.take (ei c (gt l i))).length<=1048576 by simp;omega)]
    rw[B6 (by simp;omega),gN,y7 (by simp;omega),gN,List.append_assoc]
 ·intro c w hc
  simp(disch:=omega) only[↓pq,↓pj,ps,pz,↓reduceIte,af,ah,ai,aj,ak,ap,aq,au,av,xL,xM,xN,xO,]
  refine gO l' (λi c=>[ii i,.l (c.map aE)]) gq (λc=>some (bB ⟨a,b,c⟩)) c (λi c=>c.Pairwise (· < ·)∧c.length<=l.length+i) rfl (c_ (by omega)) hc ?_ ?_
  ·intro i c hi hc
   have tg:=hc.2
   refine⟨⟨Ho hc.1 _,by have:=Ht c (gt l' i);omega⟩,λs=>?_⟩
   have hle:=Db c (gt l' i)
   obtain⟨c1,c2,c3⟩:=OL hc.1 (gt l' i)
   simp(disch:=omega) only[↓pq,↓pj,ps,pz,↓reduceIte,af,ah,ai,aj,ak,ap,aq,au,av,xL,xM,xN,xO,hi]
   refine one c (gt l' i) i s (by omega) (by omega) ?_ ?_
   ·intro k w hk
    have fV:(k:Int)<c.length:=by omega
    have dh:gt c (k:Int)<gt l' i:=by rw[eh (by omega)];exact(c3 k (by omega)).2 (by omega)
    simp(disch:=omega) only[↓pq,↓pj,ps,pz,↓reduceIte,af,ah,ai,aj,ak,ap,aq,au,av,xL,xM,xN,xO,fV,dh]
   ·intro w
    by_cases bC:ei c (gt l' i)<c.length
    ·have fV:((ei c (gt l' i):Nat):Int)<c.length:=by omega
     have dh:¬(gt c ((ei c (gt l' i):Nat):Int)<gt l' i):=by rw[eh bC];intro rC;have:=(c3 _ bC).1 rC;omega
     have jj:=Hq hc.1 bC
     by_cases jH:gt l' i∈c
     ·rw[Hp hc.1 jH]
      have o9:=jj.2 jH
      simp(disch:=omega) only[↓pq,↓pj,ps,pz,↓reduceIte,af,ah,ai,aj,ak,ap,aq,au,av,xL,xM,xN,xO,fV,dh,o9]
     ·rw[Jf hc.1 jH]
      have o9:¬(gt c ((ei c (gt l' i):Nat):Int)=gt l' i):=λe=>jH (jj.1 e)
      simp(disch:=omega) only[↓pq,↓pj,ps,pz,↓reduceIte,af,ah,ai,aj,ak,ap,aq,au,av,xL,xM,xN,xO,fV,dh,o9,re _ (show(c.take (ei c (gt l' i))).length<=1048576 by simp;omega)]
      rw[B6 (by simp;omega),gN,y7 (by simp;omega),gN,List.append_assoc]
    ·have fV:¬(((ei c (gt l' i):Nat):Int)<c.length):=by omega
     rw[Jf hc.1 (Hr hc.1 bC)]
     simp(disch:=omega) only[↓pq,↓pj,ps,pz,↓reduceIte,af,ah,ai,aj,ak,ap,aq,au,av,xL,xM,xN,xO,fV,re _ (show(c.take (ei c (gt l' i))).length<=1048576 by simp;omega)]
     rw[B6 (by simp;omega),gN,y7 (by simp;omega),gN,List.append_assoc]
  ·intro c w hc
   simp(disch:=omega) only[↓pq,↓pj,ps,pz,↓reduceIte,af,ah,ai,aj,ak,ap,aq,au,av,xL,xM,xN,xO,]
   rfl
 ·rfl
theorem asU{a b:Way}(h:gk a.aW)(h':gk b.aW):Hs a b=mw a b:=by
 unfold Hs mw
 obtain⟨q1,q2⟩:=ack h.2 acj
 obtain⟨q3,q4⟩:=ack h'.2 q1
 congr 3
 refine Hj q3.1 (Hk _ _).1 λx=>?_
 rw[q4,q2,Hl]
 constructor
 ·rintro((hx|hx)|hx)
  ·cases hx
  ·exact⟨h.2 x hx,.inl hx⟩
  ·exact⟨h'.2 x hx,.inr hx⟩
 ·rintro⟨_,hx|hx⟩
  ·exact .inl (.inr hx)
  ·exact .inr hx
theorem j6_(a b:Int)(l:List Int)(a' b':Int)(l':List Int)(h:gk l)(h':gk l'):zd [ii a,ii b,.l (l.map aE),ii a',ii b',.l (l'.map aE)]=some (bB (mw ⟨a,b,l⟩ ⟨a',b',l'⟩)):=by
 rw[<-asU h h']
 exact asT a b l a' b' l' (by have:=sT h;omega) (by have:=sT h';omega)
theorem acn{α:Type} [Inhabited α]{enc:α->List T}{l:List α}{i off:Nat}{vs:List T}{x:α}(h:i<l.length)(hx:(enc (gt l i)).take off++vs++(enc (gt l i)).drop (off+vs.length)=enc x):setRow (l.map enc) i off vs=(l.set i x).map enc:=by
 unfold setRow
 refine List.ext_getElem (by simp) λj h1 h2=>?_
 simp only[List.getElem_modify,List.getElem_map,List.getElem_set]
 by_cases hj:i=j
 ·subst hj
  rw[if_pos rfl,if_pos rfl,<-hx,eh h]
 ·rw[if_neg hj,if_neg hj]
theorem AD{α:Type} [Inhabited α]{enc:α->List T}{sc:Bool}{w off m:Nat}{l:List α}{n:Int}{vs:List T}{x:α}(h:0<=n)(h':n<l.length)(hw:∀y,(enc y).length=w)(ho:off+m<=w)(hv:vs.length=m)(hs:(!sc||vs.all eA)=true)
  (hx:(enc (gt l n)).take off++vs++(enc (gt l n)).drop (off+vs.length)=enc x):Prim.ev (.put sc w off m) (.l (l.map enc)::ii n::vs)=some (.l ((l.set n.toNat x).map enc)):=by
 have hn:n.toNat<l.length:=by omega
 have e:n=((n.toNat:Nat):Int):=by omega
 have hg:=dV (enc:=enc) h h'
 rw[e]
 rw[Uc hg (hw _) ho hv hs,Int.toNat_natCast,acn hn (by rw[<-e];exact hx)]
theorem Dc{l:List Int}{n x:Int}(h:0<=n)(h':n<l.length):Prim.ev (.put true 1 0 1) [.l (l.map aE),ii n,ii x]=some (.l ((l.set n.toNat x).map aE)):=
 AD (enc:=aE) (x:=x) h h' (λ_=>rfl) (by decide) rfl rfl rfl
theorem OM{l:List Bool}{n:Int}{x:Bool}(h:0<=n)(h':n<l.length):Prim.ev (.put true 1 0 1) [.l (l.map iI),ii n,bb x]=some (.l ((l.set n.toNat x).map iI)):=
 AD (enc:=iI) (x:=x) h h' (λ_=>rfl) (by decide) rfl rfl rfl
theorem asV{l:List Way}{n x:Int}(h:0<=n)(h':n<l.length):Prim.ev (.put true 3 0 1) [.l (l.map bB),ii n,ii x]=some (.l ((l.set n.toNat ⟨x,(gt l n).cost,(gt l n).aW⟩).map bB)):=
 AD (enc:=bB) (x:=⟨x,(gt l n).cost,(gt l n).aW⟩) h h' (λ_=>rfl) (by decide) rfl rfl rfl
theorem zq{l:List Way}{n a b:Int}{c:List Int}(h:0<=n)(h':n<l.length):Prim.ev (.put false 3 0 3) [.l (l.map bB),ii n,ii a,ii b,.l (c.map aE)]=some (.l ((l.set n.toNat ⟨a,b,c⟩).map bB)):=
 AD (enc:=bB) (x:=⟨a,b,c⟩) h h' (λ_=>rfl) (by decide) rfl rfl rfl
theorem asW{α:Type} [Inhabited α]{enc:α->List T}{ms:List Bool}{w off:Nat}{l:List α}{n:Int}{vs:List T}{x:α}(h:0<=n)(h':n<l.length)(hw:∀y,(enc y).length=w)(ho:off+vs.length<=w)(hs:qE ms vs=true)
  (hx:(enc (gt l n)).take off++vs++(enc (gt l n)).drop (off+vs.length)=enc x):Prim.ev (.iN ms w off) (.l (l.map enc)::ii n::vs)=some (.l ((l.set n.toNat x).map enc)):=by
 have hn:n.toNat<l.length:=by omega
 have hr:uY (.l (l.map enc)) (ii n)=some (enc (gt l n)):=B1 h (dV (enc:=enc) h h')
 simp only[Prim.ev,hr,Option.bind_some,hw,if_true,if_pos ho,hs,T.rows,T.int]
 rw[acn hn (by rw[show((n.toNat:Nat):Int)=n by omega];exact hx)]
theorem Hu{l:List Way}{n a b:Int}{c:List Int}(h:0<=n)(h':n<l.length):Prim.ev (.iN [true,true,false] 3 0) [.l (l.map bB),ii n,ii a,ii b,.l (c.map aE)]=some (.l ((l.set n.toNat ⟨a,b,c⟩).map bB)):=
 asW (enc:=bB) (x:=⟨a,b,c⟩) h h' (λ_=>rfl) (by simp) rfl rfl
def gM{α:Type}(enc:α->List T)(l:List α)(i:Nat):List (List T):=List.replicate i []++(l.drop i).map enc
theorem asX{α:Type}{enc:α->List T}{l:List α}{i:Nat}(he:∀x,(enc x).isEmpty=false)(h:i<l.length):Prim.ev .yb [.l (gM enc l i),ii (i:Int)]=some (.l (gM enc l (i+1))):=by
 have hd:l.drop i=l[i]::l.drop (i+1):=List.drop_eq_getElem_cons h
 have hl:(gM enc l i).length=l.length:=by simp[gM];omega
 have hr:(gM enc l i).drop i=enc l[i]::(l.drop (i+1)).map enc:=by rw[gM,hd,List.drop_left' (by simp)];rfl
 have ht:(gM enc l i).take i=List.replicate i []:=by simp[gM]
 have qI:(gM enc l i).drop (i+1)=(l.drop (i+1)).map enc:=by rw[<-List.drop_drop,hr];rfl
 have hf:rR (gM enc l i) i 1=true:=by simp[rR,hr,he]
 have hg:o_ (gM enc l i) i 1=gM enc l (i+1):=by rw[o_,ht,qI,gM,<-List.replicate_append_replicate]
 simp only[Prim.ev,Int.toNat_natCast,hl,hf,hg,if_true]
 rw[if_pos (by omega),if_pos (by omega)]
theorem aco{α:Type}{enc:α->List T}{l:List α}{i m:Nat}{ys:List (List T)}(he:∀x,(enc x).isEmpty=false)(hm:ys.length=m)(h:i+m<=l.length):Prim.ev .ll [.l (gM enc l i),ii (i:Int),.l ys]=some (.l (gM enc l (i+m))):=by
 have hl:(gM enc l i).length=l.length:=by simp[gM];omega
 have hr:(gM enc l i).drop i=(l.drop i).map enc:=by simp[gM]
 have ht:(gM enc l i).take i=List.replicate i []:=by simp[gM]
 have qI:(gM enc l i).drop (i+m)=(l.drop (i+m)).map enc:=by rw[<-List.drop_drop,hr,<-List.map_drop,List.drop_drop]
 have hf:rR (gM enc l i) i m=true:=by
  simp only[rR,hr,List.all_eq_true]
  intro r hr
  obtain⟨x,_,rfl⟩:=List.mem_map.1 (List.mem_of_mem_take hr)
  simp[he]
 have hg:o_ (gM enc l i) i m=gM enc l (i+m):=by rw[o_,ht,qI,gM,<-List.replicate_append_replicate]
 simp only[Prim.ev,Int.toNat_natCast,hl,hm,hf,hg,if_true]
 rw[if_pos (by omega),if_pos (by omega)]
theorem ON{α:Type}{enc:α->List T}{l:List α}{k:Nat}(he:∀x,(enc x).isEmpty=false)(h:k<=l.length):Prim.ev .ll [.l (l.map enc),ii 0,.l ((l.take k).map enc)]=some (.l (gM enc l k)):=by
 have:=aco (enc:=enc) (l:=l) (i:=0) (m:=k) (ys:=(l.take k).map enc) he (by simp;omega) (by omega)
 rw[Nat.zero_add]at this
 exact this
theorem OO{α:Type}{enc:α->List T}{l:List α}{k:Nat}(he:∀x,(enc x).isEmpty=false)(h:k<=l.length):Prim.ev .ll [.l (gM enc l k),ii (k:Int),.l ((l.drop k).map enc)]=some (.l (gM enc l l.length)):=by
 have:=aco (enc:=enc) (l:=l) (i:=k) (m:=l.length-k) (ys:=(l.drop k).map enc) he (by simp) (by omega)
 rw[show k+(l.length-k)=l.length by omega]at this
 exact this
def xR(l:List Int):List T:=[.l (l.map aE)]
theorem Hv{l:List (List Int)}{n:Int}(h:0<=n)(h':n<l.length):Prim.ev (.cell 1 0) [.l (l.map xR),ii n]=some (.l ((gt l n).map aE)):=iU h (dV h h') rfl rfl
theorem Jg{l:List (List Int)}{n:Int}{c:List Int}(h:0<=n)(h':n<l.length):Prim.ev (.put false 1 0 1) [.l (l.map xR),ii n,.l (c.map aE)]=some (.l ((l.set n.toNat c).map xR)):=
 AD (enc:=xR) (x:=c) h h' (λ_=>rfl) (by decide) rfl rfl rfl
theorem wP{α:Type}{enc:α->List T}{n:Nat}{x:α}{vs:List T}(h:n<4294967296)(hx:vs=enc x):Prim.ev .mk (ii (n:Int)::ii (n:Int)::vs)=some (.l ((List.replicate n x).map enc)):=by
 rw[aie (by unfold uX;exact h),hx,List.map_replicate]
theorem zr{α:Type} [Inhabited α]{l:List α}{i j:Int}{x:α}(h:0<=i)(h':i<l.length)(hj:0<=j):gt (l.set i.toNat x) j=if i=j then x else gt l j:=by
 unfold gt
 simp only[List.getD_eq_getElem?_getD,List.getElem?_set]
 by_cases e:i=j
 ·subst e
  simp[show i.toNat<l.length by omega]
 ·have:¬(i.toNat=j.toNat):=by omega
  simp[e,this]
theorem OP{α:Type} [Inhabited α]{n:Nat}{x:α}{j:Int}(h:0<=j)(h':j<n):gt (List.replicate n x) j=x:=by
 unfold gt
 simp only[List.getD_eq_getElem?_getD]
 rw[List.getElem?_replicate,if_pos (by omega)]
 rfl
def jl(s:List ay)(ar v:Int):Int:=dJ (λx=>dS x ⟨ar,1,v,0,0,[],0,false⟩) s
def rK(s:List ay)(ar v:Int):List cC:=if jl s ar v<0 then []else(gt s (jl s ar v)).aX
def xS(l:List cC)(b:Int):Int:=if dJ (λ(x:cC)=>x.to==b) l<0 then 0 else(gt l (dJ (λ(x:cC)=>x.to==b) l)).cost
def rf(s:List ay)(ar a b:Int):Int:=xS (rK s ar a) b
def dY(s:List ay)(ar a b:Int):Int:=if rf s ar b a=0 then 0 else rf s ar a b
theorem Jh(s:List ay)(ar v:Int):jl s ar v<s.length:=o5 _ _
theorem acp{s:List ay}(hn:aQ s)(ar v:Int):(rK s ar v).length<=1048576:=by
 unfold rK
 split
 ·simp
 ·exact hn.gt (by omega) (Jh s ar v)
theorem asY(s:List ay)(ar a b:Int)(h:s.length<=1048576)(hn:aQ s):CM [.l (s.map aw),ii ar,ii a,ii b]=some [ii (rf s ar a b)]:=by
 have h2:=Jh s ar a
 rw[arh];simp(disch:=omega) only[↓pq,↓pj,ps,pz,↓reduceIte,af,ah,ai,aj,ak,ap,aq,au,av,kT_,N0,He]
 rw[<-jl]
 unfold rf rK
 by_cases hk:jl s ar a<0
 ·simp only[hk,if_true];rfl
 ·have h3:0<=jl s ar a:=by omega
  have hl:=hn.gt h3 h2
  simp only[hk,if_false]
  simp(disch:=omega) only[↓pq,↓pj,ps,pz,↓reduceIte,af,ah,ai,aj,ak,ap,aq,au,av,kT_,]
  refine(D9 (gt s (jl s ar a)).aX (λi=>[ii 0,ii i]) (λx=>x.to==b) (λi=>some [ii (gt (gt s (jl s ar a)).aX i).cost]) (ku:=some [ii 0]) rfl (c_ hl) ?_ ?_).trans ?_
  ·intro i hi q
   simp(disch:=omega) only[↓pq,↓pj,ps,pz,↓reduceIte,af,ah,ai,aj,ak,ap,aq,au,av,kT_,hi]
  ·intro q
   simp(disch:=omega) only[↓pq,↓pj,ps,pz,↓reduceIte,af,ah,ai,aj,ak,ap,aq,au,av,kT_,]
  ·unfold xS
   split<;>rfl
theorem El(s:List ay)(ar a b:Int)(h:s.length<=1048576)(hn:aQ s):CN [.l (s.map aw),ii ar,ii a,ii b]=some [ii (dY s ar a b)]:=by
 rw[arj];simp(disch:=omega) only[↓pq,↓pj,ps,pz,↓reduceIte,af,ah,ai,aj,ak,ap,aq,au,av,N1,asY _ _ _ _ h hn]
 unfold dY
 split<;>rfl
theorem asZ(s:List ay)(ar a:Int)(h:s.length<=1048576):D_ [.l (s.map aw),ii ar,ii a]=if jl s ar a<0 then some [ii 0,ii 0,ii 0,ii 0,ii 0,.l [],ii 0,bb false,bb false]else some (aw (gt s (jl s ar a))++[bb true]):=by
 have h2:=Jh s ar a
 rw[aoL];simp(disch:=omega) only[↓pq,↓pj,ps,pz,↓reduceIte,af,ah,ai,aj,ak,ap,aq,au,av,MQ,C9]
 rw[<-jl]
 by_cases hk:jl s ar a<0
 ·simp only[hk,if_true]
 ·have h3:0<=jl s ar a:=by omega
  simp only[hk,if_false]
  simp(disch:=omega) only[↓pq,↓pj,ps,pz,↓reduceIte,af,ah,ai,aj,ak,ap,aq,au,av,]
  rfl
theorem OQ(s:List ay)(ar a:Int)(h:s.length<=1048576):∃c0 c1 c2 c3 c4 c6 c7:T,D_ [.l (s.map aw),ii ar,ii a]=some [c0,c1,c2,c3,c4,.l ((rK s ar a).map eJ),c6,c7,bb (decide (0<=jl s ar a))]:=by
 rw[asZ _ _ _ h]
 unfold rK
 by_cases hk:jl s ar a<0
 ·rw[if_pos hk,if_pos hk,show decide (0<=jl s ar a)=false by simp;omega];exact⟨_,_,_,_,_,_,_,rfl⟩
 ·rw[if_neg hk,if_neg hk,show decide (0<=jl s ar a)=true by simp;omega];exact⟨_,_,_,_,_,_,_,rfl⟩
theorem as0(s:List ay)(ar a b:Int)(h:s.length<=1048576)(hn:aQ s):WH [.l (s.map aw),ii ar,ii a,ii b]=some [ii (rf s ar a b)]:=by
 obtain⟨c0,c1,c2,c3,c4,c6,c7,e⟩:=OQ s ar a h
 have hl:=acp hn ar a
 rw[aoN];simp(disch:=omega) only[↓pq,↓pj,ps,pz,↓reduceIte,af,ah,ai,aj,ak,ap,aq,au,av,jG_,MR,e]
 refine(D9 (rK s ar a) (λi=>[ii 0,ii i]) (λx=>x.to==b) (λi=>some [ii (gt (rK s ar a) i).cost]) (ku:=some [ii 0]) rfl (c_ hl) ?_ ?_).trans ?_
 ·intro i hi q
  simp(disch:=omega) only[↓pq,↓pj,ps,pz,↓reduceIte,af,ah,ai,aj,ak,ap,aq,au,av,jG_,hi]
 ·intro q
  simp(disch:=omega) only[↓pq,↓pj,ps,pz,↓reduceIte,af,ah,ai,aj,ak,ap,aq,au,av,jG_,]
 ·unfold rf xS
  split<;>rfl
theorem Dd{s:List ay}(h:dv s=true){r:ay}(hr:r∈s):eP r=true:=by
 simp only[dv,bL]at h
 obtain⟨i,hi,rfl⟩:=List.mem_iff_getElem.1 hr
 have:=bW.1 h.2 i hi
 simp only[bL]at this
 rw[<-eh hi]
 exact this.1
theorem De{o:Int}{l:List cC}(h:tH o l=true){x:cC}(hx:x∈l):(1<=x.to∧x.to<=6)∧x.to≠o∧(1<=x.cost∧x.cost<=1000):=by
 obtain⟨i,hi,rfl⟩:=List.mem_iff_getElem.1 hx
 have:=bW.1 h i hi
 simp only[bL,be,Bool.not_eq_true',decide_eq_false_iff_not]at this
 rw[<-eh hi]
 exact⟨this.1.1.1,this.1.1.2,this.1.2⟩
theorem acq{o:Int}{l:List cC}(h:tH o l=true):l.Pairwise λa b=>a.to<b.to:=by
 have h:=bW.1 h
 rw[List.pairwise_iff_getElem]
 have step:∀i,(hi:i+1<l.length)->l[i].to<l[i+1].to:=by
  intro i hi
  have:=h (i+1) hi
  simp only[bL,Bool.or_eq_true,Bool.not_eq_true',decide_eq_false_iff_not,decide_eq_true_eq]at this
  have h2:=this.2.resolve_left (by omega)
  rwa[show(((i+1:Nat):Int)-1)=(i:Int) by omega,eh (by omega),eh hi]at h2
 intro i j hi hj oI
 obtain⟨d,rfl⟩:∃d,j=i+1+d:=⟨j-i-1,by omega⟩
 clear oI
 induction d with
 |zero=>exact step i (by omega)
 |succ d ih=>exact Int.lt_trans (ih (by omega)) (step (i+1+d) (by omega))
theorem Hw{s:List ay}(h:dv s=true)(ar v:Int):tH v (rK s ar v)=true:=by
 unfold rK
 by_cases hk:jl s ar v<0
 ·rw[if_pos hk];simp[tH,ke]
 ·rw[if_neg hk]
  have hm:=iT (l:=s) (n:=jl s ar v) (by omega) (Jh s ar v)
  have hr:=Dd h hm
  have hs:=q_ (λx=>dS x ⟨ar,1,v,0,0,[],0,false⟩) s (by unfold jl at hk;omega)
  rw[<-jl]at hs
  rw[sameKey_iff]at hs
  obtain⟨_,h2,h3,_⟩:=hs
  simp only at h2 h3
  unfold eP at hr
  rw[h2]at hr
  simp only[if_true,bL]at hr
  have hq:=hr.2.1.1.2
  rw[h3]at hq
  exact hq
theorem acr{l:List cC}{b:Int}(h:∀x∈l,x.to≠b):xS l b=0:=by
 unfold xS
 rw[if_pos]
 rw[D8]
 intro x hx
 simp[h x hx]
theorem as1{l:List cC}{b:Int}(h:xS l b≠0):∃x∈l,x.to=b∧x.cost=xS l b:=by
 unfold xS at h⊢
 split at h
 ·exact absurd rfl h
 ·rename_i hf
  rw[if_neg hf]
  have hs:=q_ (λ(y:cC)=>y.to==b) l (by omega)
  simp only[beq_iff_eq]at hs
  exact⟨_,iT (by omega) (o5 _ _),hs,rfl⟩
theorem acs{s:List ay}(h:dv s=true)(ar a b:Int):0<=rf s ar a b∧rf s ar a b<=1000:=by
 unfold rf
 by_cases h0:xS (rK s ar a) b=0
 ·rw[h0];omega
 ·obtain⟨x,hx,_,h2⟩:=as1 h0
  have:=De (Hw h ar a) hx
  omega
theorem Ji{s:List ay}(h:dv s=true)(ar a b:Int):0<=dY s ar a b∧dY s ar a b<=1000:=by
 unfold dY
 split
 ·omega
 ·exact acs h ar a b
def Hx(s:List ay)(ar a:Int)(M:List Int)(x:cC):List Int:=if gx x.to 1 6=true∧rf s ar x.to a>0 then M.set (a*7+x.to).toNat x.cost else M
def zt(s:List ay)(ar:Int)(M:List Int)(i:Nat):List Int:=(rK s ar (i+1)).foldl (Hx s ar (i+1)) M
def Df(s:List ay)(ar:Int):List Int:=(List.range 6).foldl (zt s ar) (List.replicate 49 0)
theorem OR(s:List ay)(ar a:Int)(M:List Int)(x:cC):(Hx s ar a M x).length=M.length:=by
 unfold Hx;split<;>simp
theorem OS{α β:Type}{g:List α->β->List α}(h:∀M x,(g M x).length=M.length)(l:List β)(M:List α):(l.foldl g M).length=M.length:=by
 induction l generalizing M with
 |nil=>rfl
 |cons x l ih=>rw[List.foldl_cons,ih,h]
theorem OT(s:List ay)(ar:Int)(M:List Int)(i:Nat):(zt s ar M i).length=M.length:=OS (OR s ar _) _ _
theorem as2(s:List ay)(ar:Int):(Df s ar).length=49:=by
 unfold Df
 rw[OS (λM i=>OT s ar M i)]
 simp
theorem as3{s:List ay}(hs:dv s=true)(ar:Int){a:Int}(ha:1<=a∧a<=6){u v:Int}(hu:1<=u∧u<=6)(hv:1<=v∧v<=6){o:Int}:∀(l:List cC) (M:List Int),tH o l=true∨(l.Pairwise (λa b=>a.to<b.to)∧∀x∈l,1<=x.to∧x.to<=6)->M.length=49->
  gt (l.foldl (Hx s ar a) M) (u*7+v)=if u=a∧rf s ar v a>0∧∃x∈l,x.to=v then xS l v else gt M (u*7+v):=by
 intro l M hl hM
 replace hl:l.Pairwise (λa b=>a.to<b.to)∧∀x∈l,1<=x.to∧x.to<=6:=by
  rcases hl with hl|hl
  ·exact⟨acq hl,λx hx=>(De hl hx).1⟩
  ·exact hl
 induction l generalizing M with
 |nil=>simp
 |cons y l ih=>
  have hp:=List.pairwise_cons.1 hl.1
  have hy:=hl.2 y (.head _)
  have hlen:=OR s ar a M y
  rw[List.foldl_cons,ih (Hx s ar a M y) (by rw[hlen];exact hM) ⟨hp.2,λx hx=>hl.2 x (.tail _ hx)⟩]
  have qX:gt (Hx s ar a M y) (u*7+v)=if u=a∧v=y.to∧rf s ar y.to a>0 then y.cost else gt M (u*7+v):=by
   unfold Hx
   by_cases hc:gx y.to 1 6=true∧rf s ar y.to a>0
   ·rw[if_pos hc,zr (by omega) (by omega) (by omega)]
    refine y8 ⟨λh=>⟨by omega,by omega,hc.2⟩,λh=>by omega⟩ _ _
   ·rw[if_neg hc,if_neg (λh=>hc ⟨be.2 hy,h.2.2⟩)]
  rw[qX]
  by_cases jH:∃x∈l,x.to=v
  ·obtain⟨x,hx,e⟩:=jH
   have dU:¬(v=y.to):=by have:=hp.1 x hx;omega
   have Dg:xS (y::l) v=xS l v:=by
    unfold xS dJ
    rw[List.findIdx?_cons]
    have:(y.to==v)=false:=by simp;omega
    rw[this]
    simp only[cE,if_false]
    cases hf:l.findIdx? (λ(z:cC)=>z.to==v)with
    |none=>rfl
    |some k=>
     show(if((k+1:Nat):Int)<0 then 0 else(gt (y::l) ((k+1:Nat):Int)).cost)=if(k:Int)<0 then 0 else(gt l (k:Int)).cost
     rw[if_neg (by omega),if_neg (by omega)]
     rfl
   by_cases yw:u=a∧rf s ar v a>0
   ·rw[if_pos ⟨yw.1,yw.2,x,hx,e⟩,if_pos ⟨yw.1,yw.2,x,.tail _ hx,e⟩,Dg]
   ·rw[if_neg (λh=>yw ⟨h.1,h.2.1⟩),if_neg (λh=>dU h.2.1),if_neg (λh=>yw ⟨h.1,h.2.1⟩)]
  ·rw[if_neg (λh=>jH h.2.2)]
   by_cases hc:u=a∧v=y.to∧rf s ar y.to a>0
   ·rw[if_pos hc,if_pos ⟨hc.1,by rw[hc.2.1];exact hc.2.2,y,.head _,hc.2.1.symm⟩]
    unfold xS dJ
    rw[List.findIdx?_cons]
    have:(y.to==v)=true:=by simp;omega
    rw[this]
    rfl
   ·rw[if_neg hc,if_neg]
    rintro⟨h1,h2,x,hx,e⟩
    rcases List.mem_cons.1 hx with rfl|hx
    ·exact hc ⟨h1,e.symm,by rw[e];exact h2⟩
    ·exact jH ⟨x,hx,e⟩
theorem as4{s:List ay}(hs:dv s=true)(ar:Int){i:Nat}(hi:i<6){M:List Int}(hM:M.length=49){u v:Int}(hu:1<=u∧u<=6)(hv:1<=v∧v<=6)(h0:u=(i:Int)+1->gt M (u*7+v)=0):
  gt (zt s ar M i) (u*7+v)=if u=(i:Int)+1 then dY s ar u v else gt M (u*7+v):=by
 unfold zt
 rw[as3 (o:=(i:Int)+1) hs ar (by omega) hu hv _ _ (.inl (Hw hs ar ((i:Int)+1))) hM]
 by_cases hc:u=(i:Int)+1
 ·rw[if_pos hc,h0 hc]
  unfold dY
  have hb:=acs hs ar v u
  by_cases h1:rf s ar v u=0
  ·rw[if_pos h1,if_neg]
   rintro⟨_,h2,_⟩
   rw[<-hc]at h2;omega
  ·rw[if_neg h1]
   by_cases h2:∃x∈rK s ar ((i:Int)+1),x.to=v
   ·rw[if_pos ⟨hc,by rw[<-hc];omega,h2⟩,<-hc];rfl
   ·rw[if_neg (λh=>h2 h.2.2)]
    unfold rf
    rw[acr]
    intro x hx e
    exact h2 ⟨x,hc▸hx,e⟩
 ·rw[if_neg (λh=>hc h.1),if_neg hc]
theorem as5{s:List ay}(hs:dv s=true)(ar:Int){u v:Int}(hu:1<=u∧u<=6)(hv:1<=v∧v<=6):gt (Df s ar) (u*7+v)=dY s ar u v:=by
 have key:=IU (l:=List.range 6) (g:=zt s ar) (c:=List.replicate 49 0) (Inv:=λi M=>M.length=49∧∀u v:Int,(1<=u∧u<=6)->(1<=v∧v<=6)->gt M (u*7+v)=if u<(i:Int)+1 then dY s ar u v else 0)
  ⟨by simp,λu v hu hv=>by rw[OP (by omega) (by omega),if_neg (by omega)]⟩ (λi M hi ⟨h1,h2⟩=>by
   have hl:(List.range 6).length=6:=List.length_range
   rw[hl]at hi
   rw[eh (by rw[hl];omega),List.getElem_range]
   refine⟨by rw[OT];exact h1,λu v hu hv=>?_⟩
   rw[as4 hs ar (by omega) h1 hu hv (λe=>by rw[h2 u v hu hv,if_neg (by omega)]),h2 u v hu hv]
   by_cases hc:u=(i:Int)+1
   ·rw[if_pos hc,if_pos (by omega)]
   ·rw[if_neg hc]
    exact y8 ⟨λh=>by omega,λh=>by omega⟩ _ _)
 have:=key.2 u v hu hv
 rw[List.length_range,if_pos (by omega)]at this
 exact this
theorem as6(s:List ay)(ar:Int)(h:s.length<=1048576)(hn:aQ s)(hs:dv s=true):WK [.l (s.map aw),ii ar]=some [.l ((Df s ar).map aE)]:=by
 have e0:=wP (enc:=aE) (n:=49) (x:=0) (vs:=[ii 0]) (by decide) rfl
 rw[aoP];simp only[MS,UE]
 rw[show Prim.ev .mk [ii 49,ii 49,ii 0]=some (.l ((List.replicate 49 (0:Int)).map aE)) from e0,gN]
 refine o6 6 (λi M=>[ii (i+1),.l (M.map aE)]) (zt s ar) (λM=>some [T.l (M.map aE)]) (List.replicate 49 0) (λ_ M=>M.length=49) rfl (c_ (by omega)) (by simp) ?_ ?_
 ·intro i M hi hM
  refine⟨by rw[OT];exact hM,λq=>?_⟩
  have aU:(i:Int)+1<=6:=by omega
  obtain⟨c0,c1,c2,c3,c4,c6,c7,e⟩:=OQ s ar ((i:Int)+1) h
  have hl:=acp hn ar ((i:Int)+1)
  simp(disch:=omega) only[↓pq,↓pj,ps,pz,↓reduceIte,af,ah,ai,aj,ak,ap,aq,au,av,ql_,uZ_,aU,e]
  refine gO (rK s ar ((i:Int)+1)) (λj M=>[ii j,.l (M.map aE)]) (Hx s ar ((i:Int)+1)) (λM=>q [ii ((i+1:Nat)+1),.l (M.map aE)]) M (λ_ M=>M.length=49) rfl (c_ hl) hM ?_ ?_
  ·intro j M hj hM
   refine⟨by rw[OR];exact hM,λq=>?_⟩
   have ht:=De (Hw hs ar ((i:Int)+1)) (iT (n:=j) (by omega) hj)
   unfold Hx
   have hb:gx (gt (rK s ar ((i:Int)+1)) j).to 1 6=true:=be.2 ht.1
   simp(disch:=omega) only[↓pq,↓pj,ps,pz,↓reduceIte,af,ah,ai,aj,ak,ap,aq,au,av,ql_,uZ_,hj,vx,hb,as0 _ _ _ _ h hn,Dc]
   simp only[true_and]
   by_cases hc:rf s ar (gt (rK s ar ((i:Int)+1)) j).to ((i:Int)+1)>0
   ·simp only[hc,if_true]
   ·simp only[hc,if_false]
  ·intro M q' hM
   simp(disch:=omega) only[↓pq,↓pj,ps,pz,↓reduceIte,af,ah,ai,aj,ak,ap,aq,au,av,ql_,uZ_,]
 ·intro M q hM
  simp(disch:=omega) only[↓pq,↓pj,ps,pz,↓reduceIte,af,ah,ai,aj,ak,ap,aq,au,av,ql_,uZ_,]
def tJ{α:Type}(f:Nat->α):List α:=(List.range 7).map f
theorem Dh{α:Type}(f:Nat->α):(tJ f).length=7:=by simp[tJ]
theorem OU{α:Type} [Inhabited α](f:Nat->α){v:Int}(h:0<=v)(h':v<7):gt (tJ f) v=f v.toNat:=by
 obtain⟨n,rfl⟩:∃n:Nat,v=n:=⟨v.toNat,by omega⟩
 rw[eh (by rw[Dh];omega)]
 simp[tJ]
theorem zu{α:Type}{f g:Nat->α}(h:∀i,i<7->f i=g i):tJ f=tJ g:=by
 unfold tJ
 exact List.map_congr_left λi hi=>h i (by simpa using hi)
theorem Di{α:Type}(f:Nat->α)(n:Nat)(x:α):(tJ f).set n x=tJ λi=>if i=n then x else f i:=by
 refine List.ext_getElem (by simp[tJ]) λi h1 h2=>?_
 simp only[List.getElem_set,tJ,List.getElem_map,List.getElem_range]
 by_cases h:n=i
 ·simp[h]
 ·rw[if_neg h,if_neg (λe=>h e.symm)]
def Em(W:List Way)(D:List Int)(b:Int)(i:Nat):Int:=
 if¬((gt W ((i:Int)+1)).to=0)∧D.contains ((i:Int)+1)=false∧(b=0∨(gt W ((i:Int)+1)).cost<(gt W b).cost)then(i:Int)+1 else b
def eB(W:List Way)(D:List Int):Int:=(List.range 6).foldl (Em W D) 0
def nf(s:List ay)(ar fr at':Int)(W:List Way)(i:Nat):List Way:=
 if dY s ar at' ((i:Int)+1)=0∨(i:Int)+1=fr then W
 else if(gt W ((i:Int)+1)).to=0∨(gt W at').cost+dY s ar at' ((i:Int)+1)<(gt W ((i:Int)+1)).cost then
  W.set (i+1) ⟨(i:Int)+1,(gt W at').cost+dY s ar at' ((i:Int)+1),if at'=fr then [(i:Int)+1]else(gt W at').aW⟩
 else if(gt W at').cost+dY s ar at' ((i:Int)+1)=(gt W ((i:Int)+1)).cost then
  W.set (i+1) (mw (gt W ((i:Int)+1)) ⟨(i:Int)+1,(gt W at').cost+dY s ar at' ((i:Int)+1),if at'=fr then [(i:Int)+1]else(gt W at').aW⟩)
 else W
def pU(s:List ay)(ar fr at':Int)(W:List Way):List Way:=(List.range 6).foldl (nf s ar fr at') W
def tK(s:List ay)(ar fr:Int):Nat->List Way->List Int->List Way
 |0,W,_=>W
 |k+1,W,D=>if eB W D=0 then W else tK s ar fr k (pU s ar fr (eB W D) W) (D++[eB W D])
def uI:Way:=⟨0,0,[]⟩
def W0(fr:Int):List Way:=(List.replicate 7 uI).set fr.toNat ⟨fr,0,[]⟩
def zv(W:List Way):List Way:=W.filter λw=>!(w.to==0)
def aP(s:List ay)(ar fr:Int):List Way:=if dv s=true∧gx fr 1 6=true∧0<=jl s ar fr then zv (tK s ar fr 6 (W0 fr) [])else []
structure nO (W:List Way) (c:Int):Prop where
 len:W.length=7
 aW:∀v:Int,0<=v->v<7->gk (gt W v).aW
 cost:∀v:Int,0<=v->v<7->0<=(gt W v).cost∧(gt W v).cost<=c
 to:∀v:Int,0<=v->v<7->(gt W v).to=0∨(gt W v).to=v
theorem nO.mono{W:List Way}{c c':Int}(h:nO W c)(hc:c<=c'):nO W c':=⟨h.len,h.aW,λv h1 h2=>by have:=h.cost v h1 h2;omega,h.to⟩
theorem tL{W:List Way}{i:Nat}{w:Way}{v:Int}(hl:W.length=7)(hi:i<6)(h0:0<=v):gt (W.set (i+1) w) v=if v=(i:Int)+1 then w else gt W v:=by
 have:=zr (l:=W) (i:=(i:Int)+1) (j:=v) (x:=w) (by omega) (by omega) h0
 rw[show((i:Int)+1).toNat=i+1 by omega]at this
 rw[this]
 exact y8 ⟨λh=>h.symm,λh=>h.symm⟩ _ _
theorem OV{a b:Way}(ha:gk a.aW)(hb:gk b.aW):gk (mw a b).aW:=by
 unfold mw
 split
 ·exact ha
 ·split
  ·exact hb
  ·exact Hk _ _
theorem zw(a b:Way):(mw a b).cost=a.cost∨(mw a b).cost=b.cost:=by
 unfold mw
 split
 ·exact .inl rfl
 ·split
  ·exact .inr rfl
  ·exact .inl rfl
theorem wQ{a b:Way}{n:Int}(ha:a.to=n)(hb:b.to=n):(mw a b).to=n:=by
 unfold mw
 split
 ·exact ha
 ·split
  ·exact hb
  ·exact ha
theorem Hy{s:List ay}(hs:dv s=true)(ar a:Int):dY s ar a a=0:=by
 have:rf s ar a a=0:=by
  unfold rf
  refine acr λx hx=>?_
  exact(De (Hw hs ar a) hx).2.1
 unfold dY
 rw[this];rfl
theorem Hz{s:List ay}(hs:dv s=true)(ar fr:Int){at':Int}(ha:1<=at'∧at'<=6){W:List Way}{c:Int}(hc:0<=c)(h:nO W (c+1000))(bR:(gt W at').cost<=c){i:Nat}(hi:i<6):
  nO (nf s ar fr at' W i) (c+1000)∧gt (nf s ar fr at' W i) at'=gt W at':=by
 have hb:=Ji hs ar at' ((i:Int)+1)
 have hz:=h.cost at' (by omega) (by omega)
 have ho:=h.cost ((i:Int)+1) (by omega) (by omega)
 have AE:=h.aW ((i:Int)+1) (by omega) (by omega)
 have ij:gk (if at'=fr then [(i:Int)+1]else(gt W at').aW):=by
  split
  ·exact Je (by omega) (by omega)
  ·exact h.aW at' (by omega) (by omega)
 have qX:∀w:Way,w.to=(i:Int)+1->gk w.aW->0<=w.cost->w.cost<=c+1000->¬(dY s ar at' ((i:Int)+1)=0)->nO (W.set (i+1) w) (c+1000)∧gt (W.set (i+1) w) at'=gt W at':=by
  intro w h1 h2 h3 h4 h5
  have dU:¬(at'=(i:Int)+1):=by intro e;rw[<-e,Hy hs]at h5;exact h5 rfl
  refine⟨⟨by simp[h.len],λv h6 h7=>?_,λv h6 h7=>?_,λv h6 h7=>?_⟩,?_⟩
  ·rw[tL h.len hi h6];split
   ·exact h2
   ·exact h.aW v h6 h7
  ·rw[tL h.len hi h6];split
   ·exact⟨h3,h4⟩
   ·exact h.cost v h6 h7
  ·rw[tL h.len hi h6];split
   ·rename_i e;rw[e,h1];exact .inr rfl
   ·exact h.to v h6 h7
  ·rw[tL h.len hi (by omega),if_neg dU]
 unfold nf
 by_cases h1:dY s ar at' ((i:Int)+1)=0∨(i:Int)+1=fr
 ·rw[if_pos h1];exact⟨h,rfl⟩
 rw[if_neg h1]
 by_cases h2:(gt W ((i:Int)+1)).to=0∨(gt W at').cost+dY s ar at' ((i:Int)+1)<(gt W ((i:Int)+1)).cost
 ·rw[if_pos h2]
  exact qX _ rfl ij (by show 0<=(gt W at').cost+_;omega) (by show(gt W at').cost+_<=_;omega) (λe=>h1 (.inl e))
 rw[if_neg h2]
 by_cases h3:(gt W at').cost+dY s ar at' ((i:Int)+1)=(gt W ((i:Int)+1)).cost
 ·rw[if_pos h3]
  have n3:=(h.to ((i:Int)+1) (by omega) (by omega)).resolve_left (λe=>h2 (.inl e))
  have htc:(mw (gt W ((i:Int)+1)) ⟨(i:Int)+1,(gt W at').cost+dY s ar at' ((i:Int)+1),if at'=fr then [(i:Int)+1]else(gt W at').aW⟩).cost=(gt W ((i:Int)+1)).cost:=by
   rcases zw (gt W ((i:Int)+1)) ⟨(i:Int)+1,(gt W at').cost+dY s ar at' ((i:Int)+1),if at'=fr then [(i:Int)+1]else(gt W at').aW⟩with e|e
   ·exact e
   ·rw[e];exact h3
  exact qX _ (wQ n3 rfl) (OV AE ij) (by rw[htc];omega) (by rw[htc];omega) (λe=>h1 (.inl e))
 ·rw[if_neg h3];exact⟨h,rfl⟩
theorem as7{s:List ay}(hs:dv s=true)(ar fr:Int){at':Int}(ha:1<=at'∧at'<=6){W:List Way}{c:Int}(hc:0<=c)(h:nO W c):nO (pU s ar fr at' W) (c+1000)∧gt (pU s ar fr at' W) at'=gt W at':=by
 have hl:(List.range 6).length=6:=List.length_range
 exact IU (l:=List.range 6) (g:=nf s ar fr at') (c:=W) (Inv:=λ_ W'=>nO W' (c+1000)∧gt W' at'=gt W at') ⟨h.mono (by omega),rfl⟩ λi W' hi ⟨h1,h2⟩=>by
  rw[hl]at hi
  rw[eh (by rw[hl];omega),List.getElem_range]
  obtain⟨h3,h4⟩:=Hz hs ar fr ha hc h1 (by rw[h2];exact(h.cost at' (by omega) (by omega)).2) (show i<6 by omega)
  exact⟨h3,h4.trans h2⟩
theorem Dj(W:List Way)(D:List Int):(eB W D=0∧∀u:Int,1<=u->u<=6->(gt W u).to≠0->u∈D)∨
  ((1<=eB W D∧eB W D<=6)∧(gt W (eB W D)).to≠0∧eB W D∉D∧∀u:Int,1<=u->u<=6->(gt W u).to≠0->u∉D->(gt W (eB W D)).cost<=(gt W u).cost):=by
 have hl:(List.range 6).length=6:=List.length_range
 have key:=IU (l:=List.range 6) (g:=Em W D) (c:=0) (Inv:=λi b=>(b=0∧∀u:Int,1<=u->u<=i->(gt W u).to≠0->u∈D)∨
  ((1<=b∧b<=i)∧(gt W b).to≠0∧b∉D∧∀u:Int,1<=u->u<=i->(gt W u).to≠0->u∉D->(gt W b).cost<=(gt W u).cost)) (.inl ⟨rfl,λu h1 h2=>by omega⟩) λi b hi hb=>by
   rw[hl]at hi
   rw[eh (by rw[hl];omega),List.getElem_range]
   unfold Em
   have hD:∀x:Int,D.contains x=false↔x∉D:=λx=>by rw[<-Bool.not_eq_true,List.contains_iff_mem]
   by_cases hc:¬((gt W ((i:Int)+1)).to=0)∧D.contains ((i:Int)+1)=false∧(b=0∨(gt W ((i:Int)+1)).cost<(gt W b).cost)
   ·rw[if_pos hc]
    refine .inr ⟨by omega,hc.1,(hD _).1 hc.2.1,λu h1 h2 h3 h4=>?_⟩
    by_cases hu:u=(i:Int)+1
    ·rw[hu];exact Int.le_refl _
    ·rcases hb with⟨hb,pf⟩|⟨mM,pf,QT,hb4⟩
     ·exact absurd (pf u h1 (by omega) h3) h4
     ·have:=hb4 u h1 (by omega) h3 h4
      rcases hc.2.2 with h5|h5
      ·omega
      ·omega
   ·rw[if_neg hc]
    rcases hb with⟨hb,pf⟩|⟨mM,pf,QT,hb4⟩
    ·refine .inl ⟨hb,λu h1 h2 h3=>?_⟩
     by_cases hu:u=(i:Int)+1
     ·subst hu
      by_cases hm:(i:Int)+1∈D
      ·exact hm
      ·exact absurd ⟨h3,(hD _).2 hm,.inl hb⟩ hc
     ·exact pf u h1 (by omega) h3
    ·refine .inr ⟨by omega,pf,QT,λu h1 h2 h3 h4=>?_⟩
     by_cases hu:u=(i:Int)+1
     ·subst hu
      have:¬((gt W ((i:Int)+1)).cost<(gt W b).cost):=λh5=>hc ⟨h3,(hD _).2 h4,.inr h5⟩
      omega
     ·exact hb4 u h1 (by omega) h3 h4
 rw[hl]at key
 exact key
structure iX (fr:Int) (W:List Way) (D:List Int):Prop where
 ok:nO W (1000*D.length)
 fr6:1<=fr∧fr<=6
 nd:D.Nodup
 mem:∀v∈D,(1<=v∧v<=6)∧(gt W v).to≠0
 mono:∀v∈D,∀u:Int,1<=u->u<=6->u∉D->(gt W u).to≠0->(gt W v).cost<=(gt W u).cost
 first:(D=[]∧∀u:Int,1<=u->u<=6->(gt W u).to≠0->u=fr)∨fr∈D
theorem as9{D l:List Int}(hn:D.Nodup)(hm:∀v∈D,v∈l):D.length<=l.length:=by
 induction D generalizing l with
 |nil=>simp
 |cons x D ih=>
  have hx:=List.nodup_cons.1 hn
  have hl:=List.length_erase_of_mem (hm x (.head _))
  have hp:0<l.length:=List.length_pos_of_mem (hm x (.head _))
  have:=ih (l:=l.erase x) hx.2 λv hv=>(List.mem_erase_of_ne (show v≠x fromλe=>hx.1 (e▸hv))).2 (hm v (.tail _ hv))
  simp only[List.length_cons];omega
theorem acu{D:List Int}(hn:D.Nodup)(hm:∀v∈D,1<=v∧v<=6):D.length<=6:=
 as9 (l:=vA) hn λv hv=>iD.2 (hm v hv)
theorem uJ{fr:Int}(h:1<=fr∧fr<=6){v:Int}(h0:0<=v)(h7:v<7):gt (W0 fr) v=if fr=v then⟨fr,0,[]⟩else uI:=by
 unfold W0
 rw[zr (by omega) (by simp;omega) h0]
 split
 ·rfl
 ·exact OP h0 (by omega)
theorem iX.start{fr:Int}(h:1<=fr∧fr<=6):iX fr (W0 fr) []:=by
 refine⟨⟨by simp[W0],λv h0 h7=>?_,λv h0 h7=>?_,λv h0 h7=>?_⟩,h,.nil,by simp,by simp,.inl ⟨rfl,λu h1 h2 h3=>?_⟩⟩
 ·rw[uJ h h0 h7];split<;>exact acj
 ·rw[uJ h h0 h7];split<;>simp[uI]
 ·rw[uJ h h0 h7];split
  ·rename_i e;exact .inr e
  ·exact .inl rfl
 ·rw[uJ h (by omega) (by omega)]at h3
  split at h3
  ·rename_i e;exact e.symm
  ·exact absurd rfl h3
theorem as_{s:List ay}(hs:dv s=true)(ar fr:Int){at':Int}(ha:1<=at'∧at'<=6){W:List Way}{c:Int}(hc:0<=c)(h:nO W c){v:Int}(hv:1<=v∧v<=6):
  gt (pU s ar fr at' W) v=gt W v∨((gt (pU s ar fr at' W) v).to=v∧v≠fr∧¬(dY s ar at' v=0)∧((gt W v).to=0∨(gt W at').cost+dY s ar at' v<=(gt W v).cost)∧(gt (pU s ar fr at' W) v).cost=(gt W at').cost+dY s ar at' v):=by
 have hl:(List.range 6).length=6:=List.length_range
 have key:=IU (l:=List.range 6) (g:=nf s ar fr at') (c:=W) (Inv:=λi W'=>nO W' (c+1000)∧gt W' at'=gt W at'∧(∀u:Int,(i:Int)<u->u<=6->gt W' u=gt W u)∧∀u:Int,1<=u->u<=i->gt W' u=gt W u∨((gt W' u).to=u∧u≠fr∧¬(dY s ar at' u=0)∧((gt W u).to=0∨(gt W at').cost+dY s ar at' u<=(gt W u).cost)∧(gt W' u).cost=(gt W at').cost+dY s ar at' u))
  ⟨h.mono (by omega),rfl,λu _ _=>rfl,λu h1 h2=>by omega⟩ λi W' hi ⟨h1,h2,h3,h4⟩=>by
  rw[hl]at hi
  rw[eh (by rw[hl];omega),List.getElem_range]
  have n9:i<6:=by omega
  obtain⟨h5,h6⟩:=Hz hs ar fr ha hc h1 (by rw[h2];exact(h.cost at' (by omega) (by omega)).2) n9
  refine⟨h5,h6.trans h2,λu h7 h8=>?_,λu h7 h8=>?_⟩
  ·rw[<-h3 u (by omega) h8]
   unfold nf
   split
   ·rfl
   ·split
    ·rw[tL h1.len n9 (by omega),if_neg (by omega)]
    ·split
     ·rw[tL h1.len n9 (by omega),if_neg (by omega)]
     ·rfl
  ·by_cases hu:u=(i:Int)+1
   ·subst hu
    have hold:=h3 ((i:Int)+1) (by omega) (by omega)
    unfold nf
    rw[hold,h2]
    by_cases q1:dY s ar at' ((i:Int)+1)=0∨(i:Int)+1=fr
    ·rw[if_pos q1];exact .inl hold
    rw[if_neg q1]
    by_cases q2:(gt W ((i:Int)+1)).to=0∨(gt W at').cost+dY s ar at' ((i:Int)+1)<(gt W ((i:Int)+1)).cost
    ·rw[if_pos q2,tL h1.len n9 (by omega),if_pos rfl]
     exact .inr ⟨rfl,λe=>q1 (.inr e),λe=>q1 (.inl e),q2.imp_right (λe=>by omega),rfl⟩
    rw[if_neg q2]
    by_cases q3:(gt W at').cost+dY s ar at' ((i:Int)+1)=(gt W ((i:Int)+1)).cost
    ·rw[if_pos q3,tL h1.len n9 (by omega),if_pos rfl]
     have n3:=(h.to ((i:Int)+1) (by omega) (by omega)).resolve_left (λe=>q2 (.inl e))
     refine .inr ⟨wQ n3 rfl,λe=>q1 (.inr e),λe=>q1 (.inl e),.inr (by omega),?_⟩
     ·rcases zw (gt W ((i:Int)+1)) ⟨(i:Int)+1,(gt W at').cost+dY s ar at' ((i:Int)+1),if at'=fr then [(i:Int)+1]else(gt W at').aW⟩with e|e
      ·rw[e];omega
      ·rw[e]
    ·rw[if_neg q3];exact .inl hold
   ·have hk:gt (nf s ar fr at' W' i) u=gt W' u:=by
     unfold nf
     split
     ·rfl
     ·split
      ·rw[tL h1.len n9 (by omega),if_neg hu]
      ·split
       ·rw[tL h1.len n9 (by omega),if_neg hu]
       ·rfl
    rw[hk]
    exact h4 u h7 (by omega)
 rw[hl]at key
 exact key.2.2.2 v hv.1 hv.2
theorem iX.step{s:List ay}(hs:dv s=true)(ar:Int){fr:Int}{W:List Way}{D:List Int}(h:iX fr W D)(hb:eB W D≠0):iX fr (pU s ar fr (eB W D) W) (D++[eB W D]):=by
 obtain⟨h1,h2,h3,h4⟩:=(Dj W D).resolve_left λe=>hb e.1
 have hc:(0:Int)<=1000*D.length:=by omega
 obtain⟨g1,g2⟩:=as7 hs ar fr h1 hc h.ok
 have Be:=λv hv=>as_ hs ar fr h1 hc h.ok (v:=v) hv
 have hold:∀v∈D,gt (pU s ar fr (eB W D) W) v=gt W v:=by
  intro v hv
  rcases Be v (h.mem v hv).1 with e|⟨_,_,e1,e2,_⟩
  ·exact e
  ·have hm:=h.mono v hv _ h1.1 h1.2 h3 h2
   have hk:=Ji hs ar (eB W D) v
   rcases e2 with e2|e2
   ·exact absurd e2 (h.mem v hv).2
   ·omega
 refine⟨?_,h.fr6,?_,λv hv=>?_,λv hv u Qf yw hu3 hu4=>?_,?_⟩
 ·refine g1.mono ?_
  simp only[List.length_append,List.length_singleton,B7,B8];omega
 ·rw[List.nodup_append]
  exact⟨h.nd,by simp,by intro a ha b km;rw[List.mem_singleton]at km;subst km;intro e;exact h3 (e▸ha)⟩
 ·rcases List.mem_append.1 hv with hv|hv
  ·rw[hold v hv];exact h.mem v hv
  ·rw[List.mem_singleton]at hv
   subst hv
   rw[g2];exact⟨h1,h2⟩
 ·have as':u∉D∧u≠eB W D:=by simpa using hu3
  have hcv:(gt (pU s ar fr (eB W D) W) v).cost<=(gt W (eB W D)).cost:=by
   rcases List.mem_append.1 hv with hv|hv
   ·rw[hold v hv];exact h.mono v hv _ h1.1 h1.2 h3 h2
   ·rw[List.mem_singleton]at hv;subst hv;rw[g2];exact Int.le_refl _
  rcases Be u ⟨Qf,yw⟩with e|⟨_,_,_,_,e⟩
  ·rw[e]at hu4⊢
   have:=h4 u Qf yw hu4 as'.1
   omega
  ·have hk:=Ji hs ar (eB W D) u
   omega
 ·right
  rcases h.first with⟨e,hf⟩|hf
  ·rw[hf _ h1.1 h1.2 h2];simp
  ·simp[hf]
theorem iX.full{fr:Int}{W:List Way}{D:List Int}(h:iX fr W D)(hd:D.length=6):eB W D=0:=by
 rcases Dj W D with e|⟨h1,h2,h3,_⟩
 ·exact e.1
 ·have hn:(eB W D::D).Nodup:=List.nodup_cons.2 ⟨h3,h.nd⟩
  have:=acu hn λv hv=>by
   rcases List.mem_cons.1 hv with rfl|hv
   ·exact h1
   ·exact(h.mem v hv).1
  simp at this;omega
theorem iX.len{fr:Int}{W:List Way}{D:List Int}(h:iX fr W D):D.length<=6:=acu h.nd λv hv=>(h.mem v hv).1
theorem ata{s:List ay}(hs:dv s=true){ar fr:Int}{F:aA->aA}(stf:List Way->List Int->List T)(out:List Way->List Int->Option (List T))
  (hF:∀W D q,iX fr W D->F q (stf W D)=if eB W D=0 then out W D else q (stf (pU s ar fr (eB W D) W) (D++[eB W D])))
  (fin:∀W D,iX fr W D->eB W D=0->out W D=some [.l ((zv W).map bB)]):
  ∀k W D R,iX fr W D->D.length+k=6->k<R->iter F R (stf W D)=some [.l ((zv (tK s ar fr k W D)).map bB)]:=by
 intro k
 induction k with
 |zero=>
  intro W D R h hk hR
  cases R with
  |zero=>omega
  |succ R=>
   have hb:=h.full (by omega)
   unfold iter
   rw[hF W D _ h,if_pos hb,fin W D h hb];rfl
 |succ k ih=>
  intro W D R h hk hR
  cases R with
  |zero=>omega
  |succ R=>
   unfold iter
   rw[hF W D _ h]
   by_cases hb:eB W D=0
   ·rw[if_pos hb,fin W D h hb]
    unfold tK
    rw[if_pos hb]
   ·rw[if_neg hb,ih _ _ R (h.step hs ar hb) (by simp;omega) (by omega)]
    conv=>rhs;unfold tK
    rw[if_neg hb]
theorem atc(W:List Way):(zv W).length<=W.length:=List.length_filter_le _ _
set_option maxHeartbeats 1600000 in
theorem OW(s:List ay)(ar fr:Int)(h:s.length<=1048576)(hn:aQ s):Gm [.l (s.map aw),ii ar,ii fr]=some [.l ((aP s ar fr).map bB)]:=by
 have hP:=Jh s ar fr
 rw[arp];simp(disch:=omega) only[↓pq,↓pj,ps,pz,↓reduceIte,af,ah,ai,aj,ak,ap,aq,au,av,tB,tC,tD,tE,N4,G8 _ h hn,uH,He]
 rw[<-jl]
 unfold aP
 cases hs:dv s with
 |false=>simp
 |true=>
 cases h6:gx fr 1 6 with
 |false=>simp
 |true=>
 have h6':=be.1 h6
 by_cases hp:jl s ar fr<0
 ·have hq:¬(0<=jl s ar fr):=by omega
  simp[hp,hq]
 have hq:0<=jl s ar fr:=by omega
 rw[if_pos (show(true=true∧true=true∧0<=jl s ar fr) from⟨rfl,rfl,hq⟩)]
 have hm:=wP (enc:=bB) (n:=7) (x:=uI) (vs:=[ii 0,ii 0,.l []]) (by decide) rfl
 have hl7:(List.replicate 7 uI).length=7:=by simp
 have bC:fr<((List.replicate 7 uI).length:Int):=by rw[hl7];omega
 have kq:Prim.ev (.put true 3 0 1) [.l ((List.replicate 7 uI).map bB),ii fr,ii fr]=some (.l ((W0 fr).map bB)):=by
  rw[asV (by omega) bC,OP (by omega) (by omega)];rfl
 simp only[not_true_eq_false,if_false,hp]
 rw[show Prim.ev .mk [ii 7,ii 7,ii 0,ii 0,.l []]=some (.l ((List.replicate 7 uI).map bB)) from hm,gN,F0 (by omega) bC,gN,kq,gN]
 refine ata hs (λW D=>[.l (D.map aE),.l (W.map bB)]) (λW D=>some [.l ((zv W).map bB)]) ?_ (λW D _ _=>rfl) 6 (W0 fr) [] rounds (iX.start h6') rfl (by unfold rounds;omega)
 intro W D q hI
 simp(disch:=omega) only[↓pq,↓pj,ps,pz,↓reduceIte,af,ah,ai,aj,ak,ap,aq,au,av,tB,tC,tD,tE,]
 have hW:=hI.ok
 have hWl:=hW.len
 have hD:=hI.len
 have hc:∀v:Int,0<=v->v<7->0<=(gt W v).cost∧(gt W v).cost<=6000:=λv h0 h1=>by have:=hW.cost v h0 h1;omega
 refine o6 6 (λi b=>[ii b,ii (i+1)]) (Em W D) (λb=>if b=0 then some [T.l ((zv W).map bB)]else q [T.l ((D++[b]).map aE),T.l ((pU s ar fr b W).map bB)]) 0 (λi b=>0<=b∧b<=6∧((i:Int)<=6->b≠0->(gt W b).to≠0)) rfl (c_ (by omega)) (by simp) ?_ ?_ |>.trans (by rfl)
 ·intro i b hi ⟨Kd,QU,iS⟩
  refine⟨?_,λw=>?_⟩
  ·unfold Em
   split
   ·rename_i hx;exact⟨by omega,by omega,λ_ _=>hx.1⟩
   ·exact⟨Kd,QU,λh1=>iS (by omega)⟩
  ·have aU:(i:Int)+1<=6:=by omega
   simp(disch:=omega) only[↓pq,↓pj,ps,pz,↓reduceIte,af,ah,ai,aj,ak,ap,aq,au,av,tB,tC,tD,tE,aU,wO _ _ (show D.length<=1048576 by omega)]
   unfold Em
   cases En:D.contains ((i:Int)+1)<;>by_cases q1:(gt W ((i:Int)+1)).to=0<;>by_cases q2:b=0<;>by_cases q3:(gt W ((i:Int)+1)).cost<(gt W b).cost<;>simp[q1,q2,q3]
 ·intro b w ⟨Kd,QU,iS⟩
  simp(disch:=omega) only[↓pq,↓pj,ps,pz,↓reduceIte,af,ah,ai,aj,ak,ap,aq,au,av,tB,tC,tD,tE,]
  by_cases hb:b=0
  ·simp only[hb,if_true]
   have hz:Prim.ev .len [.l (W.map bB)]=some (ii W.length):=B3
   refine(gO W (λi c=>[.l (c.map bB),ii i,.l (gM bB W i)]) (λc w=>if(!(w.to==0))=true then c++[w]else c) (λc=>some [T.l (c.map bB)]) [] (λi c=>c.length<=i) rfl (c_ (by omega)) (by simp) ?_ ?_).trans (by rw[y9,List.nil_append,<-zv])
   ·intro i c hi tg
    refine⟨by split<;>(try simp)<;>omega,λw=>?_⟩
    have aU:i<W.length:=by omega
    simp(disch:=omega) only[↓pq,↓pj,ps,pz,↓reduceIte,af,ah,ai,aj,ak,ap,aq,au,av,tB,tC,tD,tE,hi,asX (enc:=bB) (λ_=>rfl) aU]
    by_cases q1:(gt W (i:Int)).to=0<;>simp[q1]
   ·intro c w tg
    simp(disch:=omega) only[↓pq,↓pj,ps,pz,↓reduceIte,af,ah,ai,aj,ak,ap,aq,au,av,tB,tC,tD,tE,]
  ·simp only[hb,if_false]
   have mM:1<=b∧b<=6:=by omega
   refine o6 6 (λi W=>[ii (i+1),.l (W.map bB)]) (nf s ar fr b) (λW'=>q [T.l ((D++[b]).map aE),T.l (W'.map bB)]) W (λ_ W'=>nO W' (1000*D.length+1000)∧gt W' b=gt W b) rfl (c_ (by omega)) ⟨hW.mono (by omega),rfl⟩ ?_ ?_
   ·intro i W' hi ⟨tq,ol⟩
    have oY:=hW.cost b (by omega) (by omega)
    have cn:=Hz hs ar fr mM (by omega) tq (by rw[ol];exact oY.2) (show i<6 by omega)
    refine⟨⟨cn.1,cn.2.trans ol⟩,λw=>?_⟩
    have aU:(i:Int)+1<=6:=by omega
    have kW:=tq.len
    have Bi:=Ji hs ar b ((i:Int)+1)
    have ate:=tq.cost b (by omega) (by omega)
    have atf:=tq.cost ((i:Int)+1) (by omega) (by omega)
    have HA:=tq.aW b (by omega) (by omega)
    have AE:=tq.aW ((i:Int)+1) (by omega) (by omega)
    have hhl:=sT HA
    have ij:gk (if b=fr then [(i:Int)+1]else(gt W' b).aW):=by
     split
     ·exact Je (by omega) (by omega)
     ·exact HA
    have uK:((i:Int)+1).toNat=i+1:=by omega
    have hT1:=λc=>j6_ (gt W' ((i:Int)+1)).to (gt W' ((i:Int)+1)).cost (gt W' ((i:Int)+1)).aW ((i:Int)+1) c [(i:Int)+1] AE (Je (by omega) (by omega))
    have hT2:=λc=>j6_ (gt W' ((i:Int)+1)).to (gt W' ((i:Int)+1)).cost (gt W' ((i:Int)+1)).aW ((i:Int)+1) c (gt W' b).aW AE HA
    unfold nf
    by_cases q1:dY s ar b ((i:Int)+1)=0
    ·simp(disch:=omega) only[↓pq,↓pj,ps,pz,↓reduceIte,af,ah,ai,aj,ak,ap,aq,au,av,tB,tC,tD,tE,aU,El _ _ _ _ h hn,q1,true_or]
    by_cases q2:(i:Int)+1=fr
    ·simp(disch:=omega) only[↓pq,↓pj,ps,pz,↓reduceIte,af,ah,ai,aj,ak,ap,aq,au,av,tB,tC,tD,tE,aU,El _ _ _ _ h hn,q1,eq_true q2,or_true]
    by_cases q3:b=fr
    ·have HB:=eq_true q3
     by_cases q4:(gt W' ((i:Int)+1)).to=0
     ·simp(disch:=omega) only[↓pq,↓pj,ps,pz,↓reduceIte,af,ah,ai,aj,ak,ap,aq,au,av,tB,tC,tD,tE,aU,El _ _ _ _ h hn,q1,q2,HB,q4,re _ (show(gt W' b).aW.length<=1048576 by omega),zq,Hu,uK,true_or]
     by_cases q5:(gt W' b).cost+dY s ar b ((i:Int)+1)<(gt W' ((i:Int)+1)).cost
     ·simp(disch:=omega) only[↓pq,↓pj,ps,pz,↓reduceIte,af,ah,ai,aj,ak,ap,aq,au,av,tB,tC,tD,tE,aU,El _ _ _ _ h hn,q1,q2,HB,q4,q5,re _ (show(gt W' b).aW.length<=1048576 by omega),zq,Hu,uK,or_true]
     by_cases q6:(gt W' b).cost+dY s ar b ((i:Int)+1)=(gt W' ((i:Int)+1)).cost
     ·simp(disch:=omega) only[↓pq,↓pj,ps,pz,↓reduceIte,af,ah,ai,aj,ak,ap,aq,au,av,tB,tC,tD,tE,aU,El _ _ _ _ h hn,q1,q2,HB,q4,q5,q6,re _ (show(gt W' b).aW.length<=1048576 by omega),hT1,bB,zq,Hu,uK,or_self]
     ·simp(disch:=omega) only[↓pq,↓pj,ps,pz,↓reduceIte,af,ah,ai,aj,ak,ap,aq,au,av,tB,tC,tD,tE,aU,El _ _ _ _ h hn,q1,q2,HB,q4,q5,q6,re _ (show(gt W' b).aW.length<=1048576 by omega),or_self]
    ·have HB:=eq_false q3
     by_cases q4:(gt W' ((i:Int)+1)).to=0
     ·simp(disch:=omega) only[↓pq,↓pj,ps,pz,↓reduceIte,af,ah,ai,aj,ak,ap,aq,au,av,tB,tC,tD,tE,aU,El _ _ _ _ h hn,q1,q2,HB,q4,re _ (show(gt W' b).aW.length<=1048576 by omega),zq,Hu,uK,true_or]
     by_cases q5:(gt W' b).cost+dY s ar b ((i:Int)+1)<(gt W' ((i:Int)+1)).cost
     ·simp(disch:=omega) only[↓pq,↓pj,ps,pz,↓reduceIte,af,ah,ai,aj,ak,ap,aq,au,av,tB,tC,tD,tE,aU,El _ _ _ _ h hn,q1,q2,HB,q4,q5,re _ (show(gt W' b).aW.length<=1048576 by omega),zq,Hu,uK,or_true]
     by_cases q6:(gt W' b).cost+dY s ar b ((i:Int)+1)=(gt W' ((i:Int)+1)).cost
     ·simp(disch:=omega) only[↓pq,↓pj,ps,pz,↓reduceIte,af,ah,ai,aj,ak,ap,aq,au,av,tB,tC,tD,tE,aU,El _ _ _ _ h hn,q1,q2,HB,q4,q5,q6,re _ (show(gt W' b).aW.length<=1048576 by omega),hT2,bB,zq,Hu,uK,or_self]
     ·simp(disch:=omega) only[↓pq,↓pj,ps,pz,↓reduceIte,af,ah,ai,aj,ak,ap,aq,au,av,tB,tC,tD,tE,aU,El _ _ _ _ h hn,q1,q2,HB,q4,q5,q6,re _ (show(gt W' b).aW.length<=1048576 by omega),or_self]
   ·intro W' w _
    simp(disch:=omega) only[↓pq,↓pj,ps,pz,↓reduceIte,af,ah,ai,aj,ak,ap,aq,au,av,tB,tC,tD,tE,]
theorem Dk:vA=(List.range 6).map λi:Nat=>(i:Int)+1:=rfl
theorem HC(a b:List Int)(ha:a.length<=1048576)(hb:b.length<=1048576):F5 [.l (a.map aE),.l (b.map aE)]=some [.l ((zp a b).map aE)]:=by
 rw[aoT];simp(disch:=omega) only[↓pq,↓pj,ps,pz,↓reduceIte,af,ah,ai,aj,ak,ap,aq,au,av,k9_,MU]
 refine(o6 6 (λi c=>[.l (c.map aE),ii (i+1)]) (λc i=>if(a.contains ((i:Int)+1)||b.contains ((i:Int)+1))=true then c++[(i:Int)+1]else c) (λc=>some [T.l (c.map aE)]) [] (λi c=>c.length<=i) rfl (c_ (by omega)) (by simp) ?_ ?_).trans ?_
 ·intro i c hi hc
  refine⟨by split<;>(try simp)<;>omega,λq=>?_⟩
  have aU:(i:Int)+1<=6:=by omega
  cases h1:a.contains ((i:Int)+1)<;>cases h2:b.contains ((i:Int)+1)<;>simp(disch:=omega) only[↓pq,↓pj,ps,pz,↓reduceIte,af,ah,ai,aj,ak,ap,aq,au,av,k9_,aU,OI _ _ ha,OI _ _ hb,h1,h2,Bool.or_true,Bool.or_false,cE]
 ·intro c q hc
  simp(disch:=omega) only[↓pq,↓pj,ps,pz,↓reduceIte,af,ah,ai,aj,ak,ap,aq,au,av,k9_,]
 ·rw[IR (λi:Nat=>a.contains ((i:Int)+1)||b.contains ((i:Int)+1)) (λi:Nat=>(i:Int)+1),List.nil_append]
  unfold zp
  rw[Dk,List.filter_map]
  rfl
theorem atg(a b:Int)(t:T)(a' b':Int)(t':T):Cl [ii a,ii b,t,ii a',ii b',t']=some [bb (decide (b<b'))]:=by
 rw[ao1];simp(disch:=omega) only[↓pq,↓pj,ps,pz,↓reduceIte,af,ah,ai,aj,ak,ap,aq,au,av,MY]
theorem acx(a b:Int)(l:List Int)(a' b':Int)(l':List Int)(h:l.length<=1048576)(h':l'.length<=1048576):LO [ii a,ii b,.l (l.map aE),ii a',ii b',.l (l'.map aE)]=some (bB (mw ⟨a,b,l⟩ ⟨a',b',l'⟩)):=by
 rw[ao3];simp(disch:=omega) only[↓pq,↓pj,ps,pz,↓reduceIte,af,ah,ai,aj,ak,ap,aq,au,av,MZ,atg,OJ _ _ _ h,OJ _ _ _ h',HC _ _ h h']
 unfold mw
 by_cases h1:b<b'
 ·have h2:b'>b:=h1
  simp only[h1,h2,if_true];rfl
 ·have h2:¬(b'>b):=h1
  by_cases h3:b'<b
  ·have h4:b>b':=h3
   simp only[h1,h2,h3,h4,if_true,if_false];rfl
  ·have h4:¬(b>b'):=h3
   simp only[h1,h2,h3,h4,if_false];rfl
def sU(W:List Way):List Int:=tJ λi=>if i=0 then 0 else if(gt W (i:Int)).to=0 then -1 else(gt W (i:Int)).cost
def vB(W:List Way):List (List Int):=tJ λi=>(gt W (i:Int)).aW
def xT(D:List Int):List Bool:=tJ λi=>D.contains (i:Int)
theorem Dl(W:List Way){v:Int}(h:1<=v)(h':v<=6):gt (sU W) v=if(gt W v).to=0 then -1 else(gt W v).cost:=by
 unfold sU
 rw[OU _ (by omega) (by omega),if_neg (by omega),show((v.toNat:Nat):Int)=v by omega]
theorem OX(W:List Way){v:Int}(h:0<=v)(h':v<=6):gt (vB W) v=(gt W v).aW:=by
 unfold vB
 rw[OU _ h (by omega),show((v.toNat:Nat):Int)=v by omega]
theorem OY(D:List Int){v:Int}(h:0<=v)(h':v<=6):gt (xT D) v=D.contains v:=by
 unfold xT
 rw[OU _ h (by omega),show((v.toNat:Nat):Int)=v by omega]
theorem OZ(W:List Way):(sU W).length=7:=Dh _
theorem O0(W:List Way):(vB W).length=7:=Dh _
theorem O1(D:List Int):(xT D).length=7:=Dh _
theorem Dm{W:List Way}(hl:W.length=7){i:Nat}(hi:i<6){w:Way}(ht:w.to≠0):sU (W.set (i+1) w)=(sU W).set (i+1) w.cost:=by
 unfold sU
 rw[Di]
 refine zu λj hj=>?_
 rw[tL hl hi (by omega)]
 by_cases h:j=i+1
 ·subst h
  simp[ht]
 ·rw[if_neg (show¬((j:Int)=(i:Int)+1) by omega),if_neg h]
theorem zx{W:List Way}(hl:W.length=7){i:Nat}(hi:i<6)(w:Way):vB (W.set (i+1) w)=(vB W).set (i+1) w.aW:=by
 unfold vB
 rw[Di]
 refine zu λj hj=>?_
 rw[tL hl hi (by omega)]
 by_cases h:j=i+1
 ·subst h
  rw[if_pos (by simp),if_pos rfl]
 ·rw[if_neg (show¬((j:Int)=(i:Int)+1) by omega),if_neg h]
theorem acy{W:List Way}(hl:W.length=7){i:Nat}(hi:i<6){w:Way}(ht:w.to≠0)(h0:(gt W ((i:Int)+1)).to≠0)(hc:w.cost=(gt W ((i:Int)+1)).cost):sU (W.set (i+1) w)=sU W:=by
 rw[Dm hl hi ht]
 unfold sU
 rw[Di]
 refine zu λj hj=>?_
 by_cases h:j=i+1
 ·subst h
  rw[if_pos rfl,if_neg (by omega),if_neg (by simpa using h0),hc]
  simp
 ·rw[if_neg h]
theorem ath(D:List Int){b:Int}(h:1<=b)(h':b<=6):(xT D).set b.toNat true=xT (D++[b]):=by
 unfold xT
 rw[Di]
 refine zu λj hj=>?_
 by_cases e:j=b.toNat
 ·rw[if_pos e]
  have:(j:Int)=b:=by omega
  rw[this]
  simp
 ·rw[if_neg e]
  have:¬((j:Int)=b):=by omega
  rw[Bool.eq_iff_iff,List.contains_iff_mem,List.contains_iff_mem]
  simp[this]
theorem ati{W:List Way}(h:W.length=7):W=tJ λi=>gt W (i:Int):=by
 refine List.ext_getElem (by rw[Dh,h]) λi h1 h2=>?_
 simp only[tJ,List.getElem_map,List.getElem_range]
 rw[eh h1]
theorem atj{s:List ay}(hs:dv s=true){ar fr:Int}{F:aA->aA}(st:Int->List Way->List Int->List T){out:List Way->Option (List T)}
  (hA:∀W D q,iX fr W D->D.length<6->eB W D=0->F q (st (D.length+1) W D)=q (st 7 W D))
  (hB:∀W D q,iX fr W D->D.length<6->eB W D≠0->F q (st (D.length+1) W D)=q (st (D.length+1+1) (pU s ar fr (eB W D) W) (D++[eB W D])))
  (fin:∀W D q,iX fr W D->eB W D=0->F q (st 7 W D)=out W):
  ∀k W D R,iX fr W D->D.length+k=6->k+1<R->iter F R (st (D.length+1) W D)=out (tK s ar fr k W D):=by
 intro k
 induction k with
 |zero=>
  intro W D R h hk hR
  cases R with
  |zero=>omega
  |succ R=>
   have hb:=h.full (by omega)
   unfold iter
   rw[show((D.length:Int)+1)=7 by omega]
   exact fin W D _ h hb
 |succ k ih=>
  intro W D R h hk hR
  cases R with
  |zero=>omega
  |succ R=>
   unfold iter
   by_cases hb:eB W D=0
   ·rw[hA W D _ h (by omega) hb]
    cases R with
    |zero=>omega
    |succ R=>
     unfold iter
     rw[fin W D _ h hb]
     unfold tK
     rw[if_pos hb]
   ·rw[hB W D _ h (by omega) hb]
    have:=ih _ _ R (h.step hs ar hb) (by simp;omega) (by omega)
    rw[show(((D++[eB W D]).length:Int)+1)=D.length+1+1 by simp]at this
    rw[this]
    conv=>rhs;unfold tK
    rw[if_neg hb]
theorem atk{W:List Way}{D:List Int}{fr:Int}(h:iX fr W D)(hb:eB W D=0):zv W=((List.range 6).filter λi:Nat=>D.contains ((i:Int)+1)).map λi:Nat=>(⟨(i:Int)+1,(gt W ((i:Int)+1)).cost,(gt W ((i:Int)+1)).aW⟩:Way):=by
 have hD:=((Dj W D).resolve_right λe=>by omega).2
 have e:W=gt W 0::(List.range 6).map λi:Nat=>gt W ((i:Int)+1):=(ati h.ok.len).trans rfl
 have h0:(gt W 0).to=0:=(h.ok.to 0 (by omega) (by omega)).elim id id
 have hf:zv W=(((List.range 6).map λi:Nat=>gt W ((i:Int)+1)).filter λw=>!(w.to==0)):=by
  unfold zv
  conv=>lhs;rw[e]
  rw[List.filter_cons,if_neg (by simp[h0])]
 rw[hf,List.filter_map]
 have hp:∀i:Nat,i∈List.range 6->((λw:Way=>!(w.to==0))∘λi:Nat=>gt W ((i:Int)+1)) i=D.contains ((i:Int)+1):=by
  intro i hi
  have hi:i<6:=by simpa using hi
  rw[Bool.eq_iff_iff,List.contains_iff_mem]
  simp only[Function.comp,Bool.not_eq_true',beq_eq_false_iff_ne]
  exact⟨λh1=>hD _ (by omega) (by omega) h1,λh1=>(h.mem _ h1).2⟩
 rw[List.filter_congr hp]
 refine List.map_congr_left λi hi=>?_
 obtain⟨h1,h2⟩:=List.mem_filter.1 hi
 have h1:i<6:=by simpa using h1
 have h3:=(h.mem _ (List.contains_iff_mem.1 h2)).2
 have h4:=(h.ok.to ((i:Int)+1) (by omega) (by omega)).resolve_left h3
 have hw:∀(w:Way) (n:Int),w.to=n->w=⟨n,w.cost,w.aW⟩:=by intro w n hn;subst hn;rfl
 exact hw _ _ h4
set_option maxHeartbeats 1600000 in
theorem O2(s:List ay)(ar fr:Int)(h:s.length<=1048576)(hn:aQ s):F6 [.l (s.map aw),ii ar,ii fr]=some [.l ((aP s ar fr).map bB)]:=by
 obtain⟨c0,c1,c2,c3,c4,c6,c7,e⟩:=OQ s ar fr h
 rw[aoV];simp(disch:=omega) only[↓pq,↓pj,ps,pz,↓reduceIte,af,ah,ai,aj,ak,ap,aq,au,av,oC,oD,oE,n5,oF,MV,e,k4_ _ h hn,vx]
 unfold aP
 cases hs:dv s with
 |false=>simp
 |true=>
 cases h6:gx fr 1 6 with
 |false=>simp
 |true=>
 have h6':=be.1 h6
 by_cases hq:0<=jl s ar fr
 case neg=>simp[hq]
 rw[if_pos (show(true=true∧true=true∧0<=jl s ar fr) from⟨rfl,rfl,hq⟩)]
 have m1:=wP (enc:=aE) (n:=7) (x:=0) (vs:=[ii 0]) (by decide) rfl
 have m2:=wP (enc:=xR) (n:=7) (x:=[]) (vs:=[.l []]) (by decide) rfl
 have m3:=wP (enc:=iI) (n:=7) (x:=false) (vs:=[bb false]) (by decide) rfl
 simp only[not_true_eq_false,if_false,hq]
 rw[as6 _ _ h hn hs,UF]
 rw[show Prim.ev .mk [ii 7,ii 7,ii 0]=some (.l ((List.replicate 7 (0:Int)).map aE)) from m1,gN,show Prim.ev .mk [ii 7,ii 7,.l []]=some (.l ((List.replicate 7 ([]:List Int)).map xR)) from m2,gN,
  show Prim.ev .mk [ii 7,ii 7,bb false]=some (.l ((List.replicate 7 false).map iI)) from m3,gN]
 have Jj:∀w:List Int,gk w->F5 [.l [],.l (w.map aE)]=some [.l (w.map aE)]:=λw hw=>by
  have:=HC [] w (by simp) (by have:=sT hw;omega)
  rw[aci hw]at this
  exact this
 have hML:=as2 s ar
 have sel:∀W D q,iX fr W D->D.length<6->n5 rounds F5 (ii fr) (T.l []) (T.l (List.map aE (Df s ar))) q [ii (D.length+1),.l ((vB W).map xR),.l ((xT D).map iI),.l ((sU W).map aE)]=
   if eB W D=0 then q [ii 7,.l ((vB W).map xR),.l ((xT D).map iI),.l ((sU W).map aE)]
   else q [ii (D.length+1+1),.l ((vB (pU s ar fr (eB W D) W)).map xR),.l ((xT (D++[eB W D])).map iI),.l ((sU (pU s ar fr (eB W D) W)).map aE)]:=by
  intro W D q hI hD
  have hle:(D.length:Int)+1<=6:=by omega
  have hW:=hI.ok
  have hWl:=hW.len
  have l1:=O1 D
  have l2:=OZ W
  have l3:=O0 W
  simp(disch:=omega) only[↓pq,↓pj,ps,pz,↓reduceIte,af,ah,ai,aj,ak,ap,aq,au,av,oC,oD,oE,n5,oF,hle]
  refine o6 6 (λi b=>[ii b,ii (i+1)]) (Em W D) (λb=>if b=0 then q [ii 7,.l ((vB W).map xR),.l ((xT D).map iI),.l ((sU W).map aE)]
   else q [ii (D.length+1+1),.l ((vB (pU s ar fr b W)).map xR),.l ((xT (D++[b])).map iI),.l ((sU (pU s ar fr b W)).map aE)]) 0 (λi b=>b=(List.range i).foldl (Em W D) 0∧0<=b∧b<=6∧(b≠0->(gt W b).to≠0)) rfl (c_ (by omega)) (by simp) ?_ ?_
  ·intro i b hi ⟨Ag,Kd,QU,iS⟩
   refine⟨⟨by rw[List.range_succ,List.foldl_append,<-Ag];rfl,?_⟩,λw=>?_⟩
   ·unfold Em
    split
    ·rename_i hx;exact⟨by omega,by omega,λ_=>hx.1⟩
    ·exact⟨Kd,QU,iS⟩
   ·have aU:(i:Int)+1<=6:=by omega
    have oS:=Dl W (v:=(i:Int)+1) (by omega) aU
    have f_:=OY D (v:=(i:Int)+1) (by omega) aU
    have hco:=hW.cost ((i:Int)+1) (by omega) (by omega)
    unfold Em
    cases En:D.contains ((i:Int)+1)with
    |true=>simp(disch:=omega) only[↓pq,↓pj,ps,pz,↓reduceIte,af,ah,ai,aj,ak,ap,aq,au,av,oC,oD,oE,n5,oF,aU,f_,En];simp
    |false=>
     by_cases q1:(gt W ((i:Int)+1)).to=0
     ·simp(disch:=omega) only[↓pq,↓pj,ps,pz,↓reduceIte,af,ah,ai,aj,ak,ap,aq,au,av,oC,oD,oE,n5,oF,aU,f_,En,oS,q1,cE]
      simp
     ·have R0:(gt W ((i:Int)+1)).cost>=0:=hco.1
      by_cases q2:b=0
      ·simp(disch:=omega) only[↓pq,↓pj,ps,pz,↓reduceIte,af,ah,ai,aj,ak,ap,aq,au,av,oC,oD,oE,n5,oF,aU,f_,En,oS,q1,q2,R0,cE]
       simp
      ·have oY:=Dl W (v:=b) (by omega) QU
       have qs:=iS q2
       by_cases q3:(gt W ((i:Int)+1)).cost<(gt W b).cost
       ·simp(disch:=omega) only[↓pq,↓pj,ps,pz,↓reduceIte,af,ah,ai,aj,ak,ap,aq,au,av,oC,oD,oE,n5,oF,aU,f_,En,oS,oY,qs,q1,q2,q3,R0,cE]
        simp
       ·simp(disch:=omega) only[↓pq,↓pj,ps,pz,↓reduceIte,af,ah,ai,aj,ak,ap,aq,au,av,oC,oD,oE,n5,oF,aU,f_,En,oS,oY,qs,q1,q2,q3,R0,cE]
        simp
  ·intro b w ⟨Ag,Kd,QU,iS⟩
   by_cases hb:b=0
   ·simp(disch:=omega) only[↓pq,↓pj,ps,pz,↓reduceIte,af,ah,ai,aj,ak,ap,aq,au,av,oC,oD,oE,n5,oF,hb]
   have hbb:b=eB W D:=Ag
   have mM:1<=b∧b<=6:=by omega
   obtain⟨g1,g2,g3,g4⟩:=(Dj W D).resolve_left λe=>hb (hbb.trans e.1)
   rw[<-hbb]at g1 g2 g3 g4
   have oY:=hW.cost b (by omega) (by omega)
   have l4:=O1 (D++[b])
   have atl:fr∈D++[b]:=by
    rcases hI.first with⟨e,hf⟩|hf
    ·rw[hf b g1.1 g1.2 g2];simp
    ·simp[hf]
   simp(disch:=omega) only[↓pq,↓pj,ps,pz,↓reduceIte,af,ah,ai,aj,ak,ap,aq,au,av,oC,oD,oE,n5,oF,hb,OM,ath D mM.1 mM.2]
   refine o6 6 (λi W'=>[ii (i+1),.l ((vB W').map xR),.l ((sU W').map aE)]) (nf s ar fr b) (λW'=>q [ii (D.length+1+1),.l ((vB W').map xR),.l ((xT (D++[b])).map iI),.l ((sU W').map aE)]) W (λi W'=>nO W' (1000*D.length+1000)∧gt W' b=gt W b∧∀v∈D,gt W' v=gt W v) rfl (c_ (by omega)) ⟨hW.mono (by omega),rfl,λ_ _=>rfl⟩ ?_ ?_
   ·intro i W' hi ⟨tq,ol,hgD⟩
    have n9:i<6:=by omega
    have cn:=Hz hs ar fr mM (by omega) tq (by rw[ol];exact oY.2) n9
    have aU:(i:Int)+1<=6:=by omega
    have kW:=tq.len
    have Bi:=Ji hs ar b ((i:Int)+1)
    have ate:=tq.cost b (by omega) (by omega)
    have atf:=tq.cost ((i:Int)+1) (by omega) (by omega)
    have HA:=tq.aW b (by omega) (by omega)
    have AE:=tq.aW ((i:Int)+1) (by omega) (by omega)
    have hhl:=sT HA
    have azN:=sT AE
    have l5:=OZ W'
    have l6:=O0 W'
    have hM:=as5 hs ar (u:=b) (v:=(i:Int)+1) mM (by omega)
    have oS:=Dl W' (v:=(i:Int)+1) (by omega) aU
    have j1:=Dl W' (v:=b) mM.1 mM.2
    have qs:(gt W' b).to≠0:=by rw[ol];exact g2
    have f_:=OY (D++[b]) (v:=(i:Int)+1) (by omega) aU
    have uy:=OX W' (v:=(i:Int)+1) (by omega) aU
    have Eo:=OX W' (v:=b) (by omega) mM.2
    have uK:((i:Int)+1).toNat=i+1:=by omega
    have n3:=tq.to ((i:Int)+1) (by omega) (by omega)
    have stay:((i:Int)+1∈D++[b])->dY s ar b ((i:Int)+1)≠0->nf s ar fr b W' i=W':=by
     intro hm dU
     unfold nf
     by_cases e:dY s ar b ((i:Int)+1)=0∨(i:Int)+1=fr
     ·rw[if_pos e]
     ·rw[if_neg e]
      rcases List.mem_append.1 hm with hm|hm
      ·have h1:=hgD _ hm
       have h2:=(hI.mem _ hm).2
       have h3:=hI.mono _ hm b g1.1 g1.2 g3 g2
       rw[h1,ol]
       rw[if_neg (by rintro(h4|h4);exact h2 h4;omega),if_neg (by omega)]
      ·rw[List.mem_singleton]at hm
       rw[hm,Hy hs]at dU
       exact absurd rfl dU
    refine⟨⟨cn.1,cn.2.trans ol,λv hv=>?_⟩,λw=>?_⟩
    ·rw[<-hgD v hv]
     by_cases e:v=(i:Int)+1
     ·by_cases e2:dY s ar b ((i:Int)+1)=0
      ·unfold nf;rw[if_pos (.inl e2)]
      ·rw[stay (List.mem_append.2 (.inl (e▸hv))) e2]
     ·have hv0:=(hI.mem v hv).1
      unfold nf
      split
      ·rfl
      ·split
       ·rw[tL kW n9 (by omega),if_neg e]
       ·split
        ·rw[tL kW n9 (by omega),if_neg e]
        ·rfl
    by_cases q1:dY s ar b ((i:Int)+1)=0
    ·simp(disch:=omega) only[↓pq,↓pj,ps,pz,↓reduceIte,af,ah,ai,aj,ak,ap,aq,au,av,oC,oD,oE,n5,oF,aU,hM,q1]
     unfold nf
     rw[if_pos (.inl q1)]
    cases q2:(D++[b]).contains ((i:Int)+1)with
    |true=>
     rw[stay (List.contains_iff_mem.1 q2) q1]
     simp(disch:=omega) only[↓pq,↓pj,ps,pz,↓reduceIte,af,ah,ai,aj,ak,ap,aq,au,av,oC,oD,oE,n5,oF,aU,hM,q1,f_,q2]
    |false=>
     have q2':¬((i:Int)+1=fr):=λe=>by
      have:=List.contains_iff_mem.2 atl
      rw[<-e,q2]at this;cases this
     by_cases q3:b=fr
     ·skip
      have ko:nf s ar fr b W' i=(if(gt W' ((i:Int)+1)).to=0∨(gt W' b).cost+dY s ar b ((i:Int)+1)<(gt W' ((i:Int)+1)).cost then W'.set (i+1) ⟨(i:Int)+1,(gt W' b).cost+dY s ar b ((i:Int)+1),[(i:Int)+1]⟩
       else if(gt W' b).cost+dY s ar b ((i:Int)+1)=(gt W' ((i:Int)+1)).cost then W'.set (i+1) (mw (gt W' ((i:Int)+1)) ⟨(i:Int)+1,(gt W' b).cost+dY s ar b ((i:Int)+1),[(i:Int)+1]⟩)else W'):=by
       unfold nf
       rw[if_neg (by rintro(h1|h1);exact q1 h1;exact q2' h1),if_pos q3]
      rw[ko]
      by_cases q4:(gt W' ((i:Int)+1)).to=0
      ·rw[if_pos (.inl q4),zx kW n9,Dm kW n9 (by show(i:Int)+1≠0;omega)]
       simp(disch:=omega) only[↓pq,↓pj,ps,pz,↓reduceIte,af,ah,ai,aj,ak,ap,aq,au,av,oC,oD,oE,n5,oF,aU,hM,q1,f_,q2,oS,j1,uy,Eo,qs,eq_true q3,Jj _ (Je (n:=(i:Int)+1) (by omega) (by omega)),Dc,Jg,uK,Hv,cE,q4]
      have Ep:¬((gt W' ((i:Int)+1)).cost<0):=by omega
      by_cases q5:(gt W' b).cost+dY s ar b ((i:Int)+1)<(gt W' ((i:Int)+1)).cost
      ·rw[if_pos (.inr q5),zx kW n9,Dm kW n9 (by show(i:Int)+1≠0;omega)]
       simp(disch:=omega) only[↓pq,↓pj,ps,pz,↓reduceIte,af,ah,ai,aj,ak,ap,aq,au,av,oC,oD,oE,n5,oF,aU,hM,q1,f_,q2,oS,j1,uy,Eo,qs,eq_true q3,Jj _ (Je (n:=(i:Int)+1) (by omega) (by omega)),Dc,Jg,uK,Hv,cE,q4,Ep,q5]
      rw[if_neg (by rintro(h1|h1);exact q4 h1;exact q5 h1)]
      by_cases q6:(gt W' b).cost+dY s ar b ((i:Int)+1)=(gt W' ((i:Int)+1)).cost
      ·have O3:mw (gt W' ((i:Int)+1)) ⟨(i:Int)+1,(gt W' b).cost+dY s ar b ((i:Int)+1),[(i:Int)+1]⟩=⟨(gt W' ((i:Int)+1)).to,(gt W' ((i:Int)+1)).cost,zp (gt W' ((i:Int)+1)).aW ([(i:Int)+1])⟩:=by
        unfold mw
        rw[if_neg (by show¬((gt W' b).cost+_>_);omega),if_neg (by show¬(_>(gt W' b).cost+_);omega)]
       rw[if_pos q6,O3,zx kW n9,acy (w:=⟨(gt W' ((i:Int)+1)).to,(gt W' ((i:Int)+1)).cost,zp (gt W' ((i:Int)+1)).aW [(i:Int)+1]⟩) kW n9 q4 q4 rfl]
       have hu:=HC (gt W' ((i:Int)+1)).aW ([(i:Int)+1]) (by omega) (by simp)
       have q5':¬((gt W' ((i:Int)+1)).cost<(gt W' ((i:Int)+1)).cost):=by omega
       simp(disch:=omega) only[↓pq,↓pj,ps,pz,↓reduceIte,af,ah,ai,aj,ak,ap,aq,au,av,oC,oD,oE,n5,oF,aU,hM,q1,f_,q2,oS,j1,uy,Eo,qs,eq_true q3,Jj _ (Je (n:=(i:Int)+1) (by omega) (by omega)),Dc,Jg,uK,Hv,cE,q4,Ep,q5,q5',q6,hu]
      ·rw[if_neg q6]
       simp(disch:=omega) only[↓pq,↓pj,ps,pz,↓reduceIte,af,ah,ai,aj,ak,ap,aq,au,av,oC,oD,oE,n5,oF,aU,hM,q1,f_,q2,oS,j1,uy,Eo,qs,eq_true q3,Jj _ (Je (n:=(i:Int)+1) (by omega) (by omega)),Dc,Jg,uK,Hv,cE,q4,Ep,q5,q6]
     ·skip
      have ko:nf s ar fr b W' i=(if(gt W' ((i:Int)+1)).to=0∨(gt W' b).cost+dY s ar b ((i:Int)+1)<(gt W' ((i:Int)+1)).cost then W'.set (i+1) ⟨(i:Int)+1,(gt W' b).cost+dY s ar b ((i:Int)+1),(gt W' b).aW⟩
       else if(gt W' b).cost+dY s ar b ((i:Int)+1)=(gt W' ((i:Int)+1)).cost then W'.set (i+1) (mw (gt W' ((i:Int)+1)) ⟨(i:Int)+1,(gt W' b).cost+dY s ar b ((i:Int)+1),(gt W' b).aW⟩)else W'):=by
       unfold nf
       rw[if_neg (by rintro(h1|h1);exact q1 h1;exact q2' h1),if_neg q3]
      rw[ko]
      by_cases q4:(gt W' ((i:Int)+1)).to=0
      ·rw[if_pos (.inl q4),zx kW n9,Dm kW n9 (by show(i:Int)+1≠0;omega)]
       simp(disch:=omega) only[↓pq,↓pj,ps,pz,↓reduceIte,af,ah,ai,aj,ak,ap,aq,au,av,oC,oD,oE,n5,oF,aU,hM,q1,f_,q2,oS,j1,uy,Eo,qs,eq_false q3,Jj _ HA,Dc,Jg,uK,Hv,cE,q4]
      have Ep:¬((gt W' ((i:Int)+1)).cost<0):=by omega
      by_cases q5:(gt W' b).cost+dY s ar b ((i:Int)+1)<(gt W' ((i:Int)+1)).cost
      ·rw[if_pos (.inr q5),zx kW n9,Dm kW n9 (by show(i:Int)+1≠0;omega)]
       simp(disch:=omega) only[↓pq,↓pj,ps,pz,↓reduceIte,af,ah,ai,aj,ak,ap,aq,au,av,oC,oD,oE,n5,oF,aU,hM,q1,f_,q2,oS,j1,uy,Eo,qs,eq_false q3,Jj _ HA,Dc,Jg,uK,Hv,cE,q4,Ep,q5]
      rw[if_neg (by rintro(h1|h1);exact q4 h1;exact q5 h1)]
      by_cases q6:(gt W' b).cost+dY s ar b ((i:Int)+1)=(gt W' ((i:Int)+1)).cost
      ·have O3:mw (gt W' ((i:Int)+1)) ⟨(i:Int)+1,(gt W' b).cost+dY s ar b ((i:Int)+1),(gt W' b).aW⟩=⟨(gt W' ((i:Int)+1)).to,(gt W' ((i:Int)+1)).cost,zp (gt W' ((i:Int)+1)).aW ((gt W' b).aW)⟩:=by
        unfold mw
        rw[if_neg (by show¬((gt W' b).cost+_>_);omega),if_neg (by show¬(_>(gt W' b).cost+_);omega)]
       rw[if_pos q6,O3,zx kW n9,acy (w:=⟨(gt W' ((i:Int)+1)).to,(gt W' ((i:Int)+1)).cost,zp (gt W' ((i:Int)+1)).aW (gt W' b).aW⟩) kW n9 q4 q4 rfl]
       have hu:=HC (gt W' ((i:Int)+1)).aW ((gt W' b).aW) (by omega) (by omega)
       have q5':¬((gt W' ((i:Int)+1)).cost<(gt W' ((i:Int)+1)).cost):=by omega
       simp(disch:=omega) only[↓pq,↓pj,ps,pz,↓reduceIte,af,ah,ai,aj,ak,ap,aq,au,av,oC,oD,oE,n5,oF,aU,hM,q1,f_,q2,oS,j1,uy,Eo,qs,eq_false q3,Jj _ HA,Dc,Jg,uK,Hv,cE,q4,Ep,q5,q5',q6,hu]
      ·rw[if_neg q6]
       simp(disch:=omega) only[↓pq,↓pj,ps,pz,↓reduceIte,af,ah,ai,aj,ak,ap,aq,au,av,oC,oD,oE,n5,oF,aU,hM,q1,f_,q2,oS,j1,uy,Eo,qs,eq_false q3,Jj _ HA,Dc,Jg,uK,Hv,cE,q4,Ep,q5,q6]
   ·intro W' w _
    simp(disch:=omega) only[↓pq,↓pj,ps,pz,↓reduceIte,af,ah,ai,aj,ak,ap,aq,au,av,oC,oD,oE,n5,oF,]
 refine o6 6 (λi c=>[ii (i+1),.l (c.map aE)]) (λc i=>c.set (i+1) (-1)) (λc=>if c=[0,-1,-1,-1,-1,-1,-1]then some [T.l ((zv (tK s ar fr 6 (W0 fr) [])).map bB)]else none) (List.replicate 7 0) (λi c=>c=(List.range i).foldl (λc i=>c.set (i+1) (-1)) (List.replicate 7 0)) rfl (c_ (by omega)) rfl ?_ ?_ |>.trans (by rfl)
 ·intro i c hi hc
  have hl:c.length=7:=by rw[hc,OS (λM x=>by simp)];simp
  have aU:(i:Int)+1<=6:=by omega
  have uK:((i:Int)+1).toNat=i+1:=by omega
  refine⟨by rw[List.range_succ,List.foldl_append,<-hc];rfl,λq=>?_⟩
  simp(disch:=omega) only[↓pq,↓pj,ps,pz,↓reduceIte,af,ah,ai,aj,ak,ap,aq,au,av,oC,oD,oE,n5,oF,aU,Dc,uK]
 ·intro c q hc
  have hc:c=[0,-1,-1,-1,-1,-1,-1]:=hc
  rw[hc,if_pos rfl]
  have bC:fr<(([0,-1,-1,-1,-1,-1,-1]:List Int).length:Int):=by simp;omega
  have kq:Prim.ev (.put true 1 0 1) [.l (([0,-1,-1,-1,-1,-1,-1]:List Int).map aE),ii fr,ii 0]=some (.l ((sU (W0 fr)).map aE)):=by
   rw[Dc (by omega) bC]
   congr 3
   unfold sU
   rw[show([0,-1,-1,-1,-1,-1,-1]:List Int)=tJ (λi=>if i=0 then 0 else -1) from rfl,Di]
   refine zu λi hi=>?_
   rw[uJ h6' (by omega) (by omega)]
   by_cases e:i=fr.toNat
   ·have e1:fr=(i:Int):=by omega
    have e2:¬(i=0):=by omega
    rw[if_pos e,if_neg e2,if_pos e1]
    show(0:Int)=if fr=0 then -1 else 0
    rw[if_neg (by omega)]
   ·have e1:¬(fr=(i:Int)):=by omega
    rw[if_neg e,if_neg e1]
    by_cases e0:i=0
    ·rw[if_pos e0,if_pos e0]
    ·rw[if_neg e0,if_neg e0];rfl
  have hh:(List.replicate 7 ([]:List Int))=vB (W0 fr):=by
   show tJ (λ_=>[])=_
   unfold vB
   refine zu λi hi=>?_
   rw[uJ h6' (by omega) (by omega)]
   split<;>rfl
  have oU:List.replicate 7 false=xT []:=rfl
  simp(disch:=omega) only[↓pq,↓pj,ps,pz,↓reduceIte,af,ah,ai,aj,ak,ap,aq,au,av,oC,oD,oE,n5,oF,kq,hh,oU]
  refine atj (s:=s) hs (ar:=ar) (fr:=fr) (λr W D=>[ii r,.l ((vB W).map xR),.l ((xT D).map iI),.l ((sU W).map aE)]) (out:=λW=>some [T.l ((zv W).map bB)]) ?_ ?_ ?_ 6 (W0 fr) [] rounds (iX.start h6') rfl (by unfold rounds;omega)
  ·intro W D q hI hD hb
   rw[sel W D q hI hD,if_pos hb]
  ·intro W D q hI hD hb
   rw[sel W D q hI hD,if_neg hb]
  ·intro W D q hI hb
   have l1:=O1 D
   have l2:=OZ W
   have l3:=O0 W
   simp(disch:=omega) only[↓pq,↓pj,ps,pz,↓reduceIte,af,ah,ai,aj,ak,ap,aq,au,av,oC,oD,oE,n5,oF,]
   refine(o6 6 (λi c=>[.l (c.map bB),ii (i+1)]) (λc i=>if D.contains ((i:Int)+1)=true then c++[⟨(i:Int)+1,(gt W ((i:Int)+1)).cost,(gt W ((i:Int)+1)).aW⟩]else c) (λc=>some [T.l (c.map bB)]) [] (λi c=>c.length<=i) rfl (c_ (by omega)) (by simp) ?_ ?_).trans (by rw[IR (λi:Nat=>D.contains ((i:Int)+1)) (λi:Nat=>(⟨(i:Int)+1,(gt W ((i:Int)+1)).cost,(gt W ((i:Int)+1)).aW⟩:Way)),List.nil_append,<-atk hI hb])
   ·intro i c hi hc
    refine⟨by split<;>(try simp)<;>omega,λw=>?_⟩
    have aU:(i:Int)+1<=6:=by omega
    have f_:=OY D (v:=(i:Int)+1) (by omega) aU
    have oS:=Dl W (v:=(i:Int)+1) (by omega) aU
    have uy:=OX W (v:=(i:Int)+1) (by omega) aU
    have hhl:=sT (hI.ok.aW ((i:Int)+1) (by omega) (by omega))
    cases En:D.contains ((i:Int)+1)with
    |false=>simp(disch:=omega) only[↓pq,↓pj,ps,pz,↓reduceIte,af,ah,ai,aj,ak,ap,aq,au,av,oC,oD,oE,n5,oF,aU,f_,En,cE]
    |true=>
     have ht:=(hI.mem _ (List.contains_iff_mem.1 En)).2
     simp(disch:=omega) only[↓pq,↓pj,ps,pz,↓reduceIte,af,ah,ai,aj,ak,ap,aq,au,av,oC,oD,oE,n5,oF,aU,f_,En,oS,uy,ht,Hv]
   ·intro c w hc
    simp(disch:=omega) only[↓pq,↓pj,ps,pz,↓reduceIte,af,ah,ai,aj,ak,ap,aq,au,av,oC,oD,oE,n5,oF,]
theorem O4{α:Type}(key:α->Int):∀{a b:List α},a.Pairwise (λx y=>key x<key y)->b.Pairwise (λx y=>key x<key y)->(∀x,x∈a↔x∈b)->a=b
 | [],[],_,_,_=>rfl
 | [],y::b,_,_,h=>absurd ((h y).2 (.head _)) (by simp)
 |x::a,[],_,_,h=>absurd ((h x).1 (.head _)) (by simp)
 |x::a,y::b,ha,hb,h=>by
  have tI:=List.pairwise_cons.1 ha
  have km:=List.pairwise_cons.1 hb
  have Kf:x=y:=by
   rcases List.mem_cons.1 ((h x).1 (.head _))with e|e
   ·exact e
   ·rcases List.mem_cons.1 ((h y).2 (.head _))with e'|e'
    ·exact e'.symm
    ·have:=km.1 x e;have:=tI.1 y e';omega
  subst Kf
  have:a=b:=O4 key tI.2 km.2 λz=>by
   constructor
   ·intro hz
    rcases List.mem_cons.1 ((h z).1 (.tail _ hz))with e|e
    ·subst e;have:=tI.1 z hz;omega
    ·exact e
   ·intro hz
    rcases List.mem_cons.1 ((h z).2 (.tail _ hz))with e|e
    ·subst e;have:=km.1 z hz;omega
    ·exact e
  rw[this]
def oJ(o:Option Way)(w:Way):Option Way:=match o with|none=>some w|some b=>some (mw b w)
def kg(l:List Way):Option Way:=l.foldl oJ none
theorem HD(l:List Way)(w:Way):kg (l++[w])=oJ (kg l) w:=by simp[kg]
def O5(l:List Way)(b:Way):Prop:=gk b.aW∧(∃x∈l,x.cost=b.cost)∧(∀x∈l,b.cost<=x.cost)∧∀h,h∈b.aW↔∃x∈l,x.cost=b.cost∧h∈x.aW
theorem atn{l:List Way}{b w:Way}(hl:∀x∈l,gk x.aW)(hw:gk w.aW)(h:O5 l b):O5 (l++[w]) (mw b w):=by
 obtain⟨h1,⟨x0,DY,Sk⟩,h3,h4⟩:=h
 unfold mw
 by_cases q1:w.cost>b.cost
 ·rw[if_pos q1]
  refine⟨h1,⟨x0,by simp[DY],Sk⟩,λx hx=>?_,λh=>?_⟩
  ·rcases List.mem_append.1 hx with hx|hx
   ·exact h3 x hx
   ·rw[List.mem_singleton]at hx;subst hx;omega
  ·rw[h4]
   constructor
   ·rintro⟨x,hx,e1,e2⟩;exact⟨x,by simp[hx],e1,e2⟩
   ·rintro⟨x,hx,e1,e2⟩
    rcases List.mem_append.1 hx with hx|hx
    ·exact⟨x,hx,e1,e2⟩
    ·rw[List.mem_singleton]at hx;subst hx;omega
 rw[if_neg q1]
 by_cases q2:b.cost>w.cost
 ·rw[if_pos q2]
  refine⟨hw,⟨w,by simp,rfl⟩,λx hx=>?_,λh=>?_⟩
  ·rcases List.mem_append.1 hx with hx|hx
   ·have:=h3 x hx;omega
   ·rw[List.mem_singleton]at hx;subst hx;omega
  ·constructor
   ·intro hh;exact⟨w,by simp,rfl,hh⟩
   ·rintro⟨x,hx,e1,e2⟩
    rcases List.mem_append.1 hx with hx|hx
    ·have:=h3 x hx;omega
    ·rw[List.mem_singleton]at hx;subst hx;exact e2
 rw[if_neg q2]
 have he:w.cost=b.cost:=by omega
 refine⟨Hk _ _,⟨x0,by simp[DY],Sk⟩,λx hx=>?_,λh=>?_⟩
 ·rcases List.mem_append.1 hx with hx|hx
  ·exact h3 x hx
  ·rw[List.mem_singleton]at hx;subst hx;show b.cost<=_;omega
 ·show h∈zp b.aW w.aW↔_
  rw[Hl]
  constructor
  ·rintro⟨_,hh|hh⟩
   ·obtain⟨x,hx,e1,e2⟩:=(h4 h).1 hh
    exact⟨x,by simp[hx],e1,e2⟩
   ·exact⟨w,by simp,he,hh⟩
  ·rintro⟨x,hx,e1,e2⟩
   rcases List.mem_append.1 hx with hx|hx
   ·exact⟨(hl x hx).2 h e2,.inl ((h4 h).2 ⟨x,hx,e1,e2⟩)⟩
   ·rw[List.mem_singleton]at hx;subst hx
    exact⟨hw.2 h e2,.inr e2⟩
theorem Jk{v:Int}:∀(n:Nat) (l:List Way),l.length=n->(∀x∈l,x.to=v∧gk x.aW)->(l=[]∧kg l=none)∨∃b,kg l=some b∧b.to=v∧O5 l b:=by
 intro n
 induction n with
 |zero=>intro l hl _;exact .inl ⟨List.eq_nil_of_length_eq_zero hl,by rw[List.eq_nil_of_length_eq_zero hl];rfl⟩
 |succ n ih=>
  intro l hl hx
  right
  obtain⟨l',w,rfl⟩:∃l' w,l=l'++[w]:=⟨l.dropLast,l.getLast (by intro e;subst e;simp at hl),(List.dropLast_concat_getLast _).symm⟩
  have hw:=hx w (by simp)
  rw[HD]
  rcases ih l' (by simpa using hl) (λx h=>hx x (by simp[h]))with⟨rfl,e⟩|⟨b,e,hb,hB⟩
  ·rw[e]
   exact⟨w,rfl,hw.1,hw.2,⟨w,by simp,rfl⟩,by simp,λh=>by simp⟩
  ·rw[e]
   exact⟨mw b w,rfl,wQ hb hw.1,atn (λx h=>(hx x (by simp[h])).2) hw.2 hB⟩
theorem acz{v:Int}{l l':List Way}(h:∀x∈l,x.to=v∧gk x.aW)(h':∀x,x∈l↔x∈l'):kg l=kg l':=by
 have kW:∀x∈l',x.to=v∧gk x.aW:=λx hx=>h x ((h' x).2 hx)
 rcases Jk _ l rfl h with⟨e,e1⟩|⟨b,e1,hb,B⟩
 ·rcases Jk _ l' rfl kW with⟨e',e2⟩|⟨b',_,_,B'⟩
  ·rw[e1,e2]
  ·obtain⟨x,hx,_⟩:=B'.2.1
   have:=(h' x).2 hx
   rw[e]at this;cases this
 ·rcases Jk _ l' rfl kW with⟨e',e2⟩|⟨b',e2,km,B'⟩
  ·obtain⟨x,hx,_⟩:=B.2.1
   have:=(h' x).1 hx
   rw[e']at this;cases this
  ·have hc:b.cost=b'.cost:=by
    obtain⟨x,hx,ex⟩:=B.2.1
    obtain⟨y,hy,ey⟩:=B'.2.1
    have h1:=B'.2.2.1 x ((h' x).1 hx)
    have h2:=B.2.2.1 y ((h' y).2 hy)
    omega
   have hh:b.aW=b'.aW:=Hj B.1.1 B'.1.1 λh=>by
    rw[B.2.2.2,B'.2.2.2,hc]
    exact⟨λ⟨x,hx,q⟩=>⟨x,(h' x).1 hx,q⟩,λ⟨x,hx,q⟩=>⟨x,(h' x).2 hx,q⟩⟩
   rw[e1,e2]
   congr 1
   cases b;cases b'
   simp only at hc hh hb km
   subst hc hh hb km
   rfl
def cL(C:List Way):List Way:=vA.filterMap λv=>kg (C.filter λw=>w.to==v)
theorem HE{C:List Way}(hC:∀x∈C,gk x.aW){x:Way}:x∈cL C↔(1<=x.to∧x.to<=6)∧kg (C.filter λw=>w.to==x.to)=some x:=by
 unfold cL
 rw[List.mem_filterMap]
 constructor
 ·rintro⟨v,hv,e⟩
  have hv:=iD.1 hv
  rcases Jk (v:=v) _ (C.filter λw=>w.to==v) rfl (λy hy=>by have:=List.mem_filter.1 hy;exact⟨by simpa using this.2,hC y this.1⟩)with⟨_,e1⟩|⟨b,e1,hb,_⟩
  ·rw[e1]at e;cases e
  ·rw[e1]at e;cases e
   subst hb
   exact⟨hv,e1⟩
 ·rintro⟨h1,h2⟩
  exact⟨x.to,iD.2 h1,h2⟩
theorem Dn(C:List Way)(hC:∀x∈C,gk x.aW):(cL C).Pairwise λa b=>a.to<b.to:=by
 unfold cL
 rw[List.pairwise_filterMap]
 refine nN.imp λ{a b} lu x hx y hy=>?_
 have key:∀(v:Int) (z:Way),kg (C.filter λw=>w.to==v)=some z->z.to=v:=by
  intro v z hz
  rcases Jk (v:=v) _ (C.filter λw=>w.to==v) rfl (λy hy=>by have:=List.mem_filter.1 hy;exact⟨by simpa using this.2,hC y this.1⟩)with⟨_,e1⟩|⟨b,e1,hb,_⟩
  ·rw[e1]at hz;cases hz
  ·rw[e1]at hz;cases hz;exact hb
 rw[key a x hx,key b y hy]
 exact lu
theorem Dp(C:List Way):(cL C).length<=6:=by
 unfold cL
 exact List.length_filterMap_le _ _
theorem zy{C:List Way}(hC:∀x∈C,gk x.aW){x:Way}(hx:x∈cL C):gk x.aW∧∃y∈C,y.to=x.to∧y.cost=x.cost:=by
 have hm:=(HE hC).1 hx
 rcases Jk (v:=x.to) _ (C.filter λw=>w.to==x.to) rfl (λy hy=>by have:=List.mem_filter.1 hy;exact⟨by simpa using this.2,hC y this.1⟩)with⟨_,e1⟩|⟨b,e1,hb,B⟩
 ·rw[e1]at hm;cases hm.2
 ·rw[e1]at hm;cases hm.2
  obtain⟨y,hy,e⟩:=B.2.1
  have:=List.mem_filter.1 hy
  exact⟨B.1,y,this.1,by simpa using this.2,e⟩
def cp(l:List Way)(n:Int):Nat:=(l.filter (λx=>decide (x.to<n))).length
theorem HF(l:List Way)(n:Int):cp l n<=l.length:=List.length_filter_le _ _
theorem HG{l:List Way}(h:l.Pairwise λa b=>a.to<b.to)(n:Int):∀i,(hi:i<l.length)->(l[i].to<n↔i<cp l n):=by
 induction l with
 |nil=>simp
 |cons x c ih=>
  have hs:=List.pairwise_cons.1 h
  have i3:=ih hs.2
  by_cases hx:x.to<n
  ·have e:cp (x::c) n=cp c n+1:=by simp[cp,List.filter_cons,hx]
   rw[e]
   intro i hi
   cases i with
   |zero=>simp[hx]
   |succ i=>rw[List.getElem_cons_succ,i3 i (by simpa using hi)];omega
  ·have e1:(x::c).filter (λx=>decide (x.to<n))=[]:=by
    rw[List.filter_eq_nil_iff]
    intro y hy
    rcases List.mem_cons.1 hy with rfl|hy
    ·simp;omega
    ·have:=hs.1 y hy;simp;omega
   have e:cp (x::c) n=0:=by unfold cp;rw[e1];rfl
   rw[e]
   intro i hi
   refine⟨λh3=>?_,λh3=>absurd h3 (by omega)⟩
   cases i with
   |zero=>rw[List.getElem_cons_zero]at h3;omega
   |succ i=>
    rw[List.getElem_cons_succ]at h3
    have:=hs.1 _ (List.getElem_mem (by simpa using hi:i<c.length));omega
def sV(l:List Way)(w:Way):List Way:=
 if cp l w.to<l.length∧(gt l (cp l w.to:Nat)).to=w.to then l.set (cp l w.to) (mw (gt l (cp l w.to:Nat)) w)
 else l.take (cp l w.to)++([w]++l.drop (cp l w.to))
theorem acA{C:List Way}(hC:∀x∈C,gk x.aW){w:Way}(hw:1<=w.to∧w.to<=6)(hh:gk w.aW):sV (cL C) w=cL (C++[w]):=by
 have hC':∀x∈C++[w],gk x.aW:=λx hx=>by
  rcases List.mem_append.1 hx with hx|hx
  ·exact hC x hx
  ·rw[List.mem_singleton]at hx;subst hx;exact hh
 have rh:=Dn C hC
 have ko:=HG rh w.to
 have hle:=HF (cL C) w.to
 have QV:=List.pairwise_iff_getElem.1 rh
 have hf:∀v:Int,(C++[w]).filter (λx=>x.to==v)=C.filter (λx=>x.to==v)++if w.to=v then [w]else []:=by
  intro v
  rw[List.filter_append,List.filter_cons]
  by_cases e:w.to=v<;>simp[e]
 refine O4 Way.to ?_ (Dn _ hC') λx=>?_
 ·unfold sV
  split
  ·rename_i hc
   rw[List.pairwise_iff_getElem]
   intro i j hi hj oI
   simp only[List.length_set]at hi hj
   have n3:(mw (gt (cL C) (cp (cL C) w.to:Nat)) w).to=(cL C)[cp (cL C) w.to].to:=by
    rw[wQ (n:=w.to) hc.2 rfl,<-eh hc.1,hc.2]
   simp only[List.getElem_set]
   have t_:∀k (hk:k<(cL C).length),(if cp (cL C) w.to=k then mw (gt (cL C) (cp (cL C) w.to:Nat)) w else(cL C)[k]).to=(cL C)[k].to:=by
    intro k hk
    split
    ·rename_i e;subst e;exact n3
    ·rfl
   rw[t_ i hi,t_ j hj]
   exact QV i j hi hj oI
  ·rename_i hc
   rw[List.pairwise_append]
   refine⟨rh.sublist (List.take_sublist _ _),?_,?_⟩
   ·rw[List.singleton_append,List.pairwise_cons]
    refine⟨λy hy=>?_,rh.sublist (List.drop_sublist _ _)⟩
    obtain⟨i,hi,rfl⟩:=List.mem_iff_getElem.1 hy
    rw[List.getElem_drop]
    simp only[List.length_drop]at hi
    have h1:=mt (ko (cp (cL C) w.to) (by omega)).1 (by omega)
    have h2:¬((cL C)[cp (cL C) w.to].to=w.to):=λe=>hc ⟨by omega,by rw[eh (by omega)];exact e⟩
    rcases Nat.eq_zero_or_pos i with rfl|h3
    ·show w.to<(cL C)[cp (cL C) w.to].to;omega
    ·have:=QV (cp (cL C) w.to) (cp (cL C) w.to+i) (by omega) (by omega) (by omega);omega
   ·intro a ha b hb
    obtain⟨i,hi,rfl⟩:=List.mem_iff_getElem.1 ha
    rw[List.getElem_take]
    simp only[List.length_take]at hi
    have h1:=(ko i (by omega)).2 (by omega)
    rcases List.mem_append.1 hb with hb|hb
    ·rw[List.mem_singleton]at hb;subst hb;exact h1
    ·obtain⟨j,hj,rfl⟩:=List.mem_iff_getElem.1 hb
     rw[List.getElem_drop]
     simp only[List.length_drop]at hj
     exact QV i _ (by omega) (by omega) (by omega)
 ·rw[HE hC',hf]
  unfold sV
  by_cases hc:cp (cL C) w.to<(cL C).length∧(gt (cL C) (cp (cL C) w.to:Nat)).to=w.to
  ·rw[if_pos hc]
   have hold:gt (cL C) (cp (cL C) w.to:Nat)∈cL C:=iT (by omega) (by omega)
   have ho:=(HE hC).1 hold
   rw[hc.2]at ho
   have ij:kg (C.filter (λx=>x.to==w.to)++[w])=some (mw (gt (cL C) (cp (cL C) w.to:Nat)) w):=by rw[HD,ho.2];rfl
   have pM:(mw (gt (cL C) (cp (cL C) w.to:Nat)) w).to=w.to:=wQ hc.2 rfl
   constructor
   ·intro hx
    obtain⟨i,hi,rfl⟩:=List.mem_iff_getElem.1 hx
    rw[List.length_set]at hi
    rw[List.getElem_set]
    by_cases e:cp (cL C) w.to=i
    ·rw[if_pos e,pM,if_pos rfl]
     exact⟨hw,ij⟩
    ·rw[if_neg e]
     have dU:¬(w.to=(cL C)[i].to):=by
      rw[<-hc.2,eh hc.1]
      rcases Nat.lt_or_gt_of_ne e with h|h
      ·have:=QV _ _ hc.1 hi h;omega
      ·have:=QV _ _ hi hc.1 h;omega
     rw[if_neg dU,List.append_nil]
     exact(HE hC).1 (List.getElem_mem hi)
   ·rintro⟨h1,h2⟩
    by_cases e:w.to=x.to
    ·rw[if_pos e,<-e,ij]at h2
     cases h2
     exact List.mem_set hc.1 _
    ·rw[if_neg e,List.append_nil]at h2
     have hx:=(HE hC).2 ⟨h1,h2⟩
     obtain⟨i,hi,rfl⟩:=List.mem_iff_getElem.1 hx
     rw[List.mem_iff_getElem]
     refine⟨i,by simpa using hi,?_⟩
     rw[List.getElem_set,if_neg]
     rintro rfl
     rw[eh hi]at hc
     exact e hc.2.symm
  ·rw[if_neg hc]
   have hno:∀y∈cL C,y.to≠w.to:=by
    intro y hy e
    obtain⟨i,hi,rfl⟩:=List.mem_iff_getElem.1 hy
    have h1:=mt (ko i hi).2 (by omega)
    have h2:cp (cL C) w.to<(cL C).length:=by omega
    have h3:=mt (ko _ h2).1 (by omega)
    have h4:¬((cL C)[cp (cL C) w.to].to=w.to):=λe'=>hc ⟨h2,by rw[eh h2];exact e'⟩
    rcases Nat.eq_or_lt_of_le (show cp (cL C) w.to<=i by
     rcases Nat.lt_or_ge i (cp (cL C) w.to)with h5|h5
     ·have:=(ko i hi).2 h5;omega
     ·exact h5)with h5|h5
    ·simp only[h5]at h4;exact h4 e
    ·have:=QV _ _ h2 hi h5;omega
   have eo:kg (C.filter λx=>x.to==w.to)=none:=by
    rcases Jk (v:=w.to) _ (C.filter λx=>x.to==w.to) rfl (λy hy=>by have:=List.mem_filter.1 hy;exact⟨by simpa using this.2,hC y this.1⟩)with⟨_,e1⟩|⟨b,e1,hb,_⟩
    ·exact e1
    ·exact absurd hb (hno b ((HE hC).2 ⟨by rw[hb];exact hw,by rw[hb];exact e1⟩))
   have jV:x∈(cL C).take (cp (cL C) w.to)++([w]++(cL C).drop (cp (cL C) w.to))↔x=w∨x∈cL C:=by
    conv=>rhs;rw[<-List.take_append_drop (cp (cL C) w.to) (cL C)]
    simp only[List.mem_append,List.mem_singleton]
    constructor
    ·rintro(h|h|h)
     ·exact .inr (.inl h)
     ·exact .inl h
     ·exact .inr (.inr h)
    ·rintro(h|h|h)
     ·exact .inr (.inl h)
     ·exact .inl h
     ·exact .inr (.inr h)
   rw[jV]
   constructor
   ·rintro(rfl|hx)
    ·rw[if_pos rfl,HD,eo]
     exact⟨hw,rfl⟩
    ·rw[if_neg (λe=>hno x hx e.symm),List.append_nil]
     exact(HE hC).1 hx
   ·rintro⟨h1,h2⟩
    by_cases e:w.to=x.to
    ·rw[if_pos e,<-e,HD,eo]at h2
     cases h2
     exact .inl rfl
    ·rw[if_neg e,List.append_nil]at h2
     exact .inr ((HE hC).2 ⟨h1,h2⟩)
end Go.Proofs.YtjimmglpkndemaaGreatC

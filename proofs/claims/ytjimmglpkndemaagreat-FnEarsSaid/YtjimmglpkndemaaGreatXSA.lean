/- What the small functions compute: words, nets, records, stores. Conditions: none. -/
import Derived.Test.YtjimmglpkndemaaGreatXGE
namespace Go.Proofs.YtjimmglpkndemaaGreatC
open Int renaming reduceLE -> af, reduceLT -> ah, reduceEq -> ai, reduceGT -> aj, reduceGE -> ak, reduceAdd -> ap, reduceSub -> aq, reduceMul -> au, reduceNeg -> av
set_option linter.unusedVariables false
set_option linter.unusedSimpArgs false
theorem lG(p:Prop) [Decidable p](x y:Bool):(if p then some [bb x]else some [bb y])=some [bb (if p then x else y)]:=by by_cases h:p<;>simp[h]
def jO(a lo hi:Int):Bool:=decide (lo<=a)&&decide (a<=hi)
theorem aZ{a lo hi:Int}:jO a lo hi=true↔lo<=a∧a<=hi:=by simp[jO]
theorem wl(a lo hi:Int):rB [ii a,ii lo,ii hi]=some [bb (jO a lo hi)]:=by
 rw[al8];simp(disch:=omega) only[↓pq,↓pj,ps,pz,↓reduceIte,af,ah,ai,aj,ak,ap,aq,au,av,Nk,lG];unfold jO
 by_cases h:a>=lo<;>simp[h]<;>omega
theorem Jo(a lo hi:Int):rA [ii a,ii lo,ii hi]=some [bb (jO a lo hi)]:=by
 rw[aj7];simp(disch:=omega) only[↓pq,↓pj,ps,pz,↓reduceIte,af,ah,ai,aj,ak,ap,aq,au,av,Mr,lG];unfold jO
 by_cases h:a>=lo<;>simp[h]<;>omega
def lH(n:Int)(l:bC):Bool:=jO n 1 6&&jO l.a 1 n&&jO l.b 1 n&&decide (l.a<l.b)&&jO l.cost 1 1000&&jO l.ae 0 2
theorem anH(n a b c ar:Int):Q' [ii n,ii a,ii b,ii c,ii ar]=some [bb (lH n ⟨a,b,c,ar⟩)]:=by
 rw[al_];simp(disch:=omega) only[↓pq,↓pj,ps,pz,↓reduceIte,af,ah,ai,aj,ak,ap,aq,au,av,Nl,wl,lG];unfold lH
 grind
theorem anI(n a b c ar:Int):QE [ii n,ii a,ii b,ii c,ii ar]=some [bb (lH n ⟨a,b,c,ar⟩)]:=by
 rw[aj9];simp(disch:=omega) only[↓pq,↓pj,ps,pz,↓reduceIte,af,ah,ai,aj,ak,ap,aq,au,av,Ms,Jo,lG];unfold lH
 grind
def iH(x y:bC):Bool:=decide (x.a<y.a∨x.a=y.a∧(x.b<y.b∨x.b=y.b∧x.ae<y.ae))
theorem anJ(a b c d a' b' c' d':Int):Ra [ii a,ii b,ii c,ii d,ii a',ii b',ii c',ii d']=some [bb (iH ⟨a,b,c,d⟩ ⟨a',b',c',d'⟩)]:=by
 rw[ama];simp(disch:=omega) only[↓pq,↓pj,ps,pz,↓reduceIte,af,ah,ai,aj,ak,ap,aq,au,av,Nn,lG];unfold iH
 grind
theorem Xd(a b c d a' b' c' d':Int):GD [ii a,ii b,ii c,ii d,ii a',ii b',ii c',ii d']=some [bb (iH ⟨a,b,c,d⟩ ⟨a',b',c',d'⟩)]:=by
 rw[ajT];simp(disch:=omega) only[↓pq,↓pj,ps,pz,↓reduceIte,af,ah,ai,aj,ak,ap,aq,au,av,Mi,lG];unfold iH
 grind
def pB(x y:bP):Bool:=decide (x.key<y.key∨x.key=y.key∧x.owner<y.owner)
theorem anK(a b c a' b' c':Int)(d d':Bool):Ax [ii a,ii b,ii c,bb d,ii a',ii b',ii c',bb d']=some [bb (pB ⟨a,b,c,d⟩ ⟨a',b',c',d'⟩)]:=by
 rw[amc];simp(disch:=omega) only[↓pq,↓pj,ps,pz,↓reduceIte,af,ah,ai,aj,ak,ap,aq,au,av,Np,lG];unfold pB
 grind
theorem Xe(a b c a' b' c':Int)(d d':Bool):GF [ii a,ii b,ii c,bb d,ii a',ii b',ii c',bb d']=some [bb (pB ⟨a,b,c,d⟩ ⟨a',b',c',d'⟩)]:=by
 rw[ajZ];simp(disch:=omega) only[↓pq,↓pj,ps,pz,↓reduceIte,af,ah,ai,aj,ak,ap,aq,au,av,Mm,lG];unfold pB
 grind
def dK{α:Type} [Inhabited α](ok:α->Bool)(lt:α->α->Bool)(l:List α):Bool:=
 o7 l.length λi=>ok (gt l i)&&(!decide ((i:Int)>0)||lt (gt l (i-1:Int)) (gt l i))
def zq(n:Int)(t:bP):Bool:=jO t.owner 1 n&&jO t.key 1 9&&jO t.cost 1 1000
def pC(x:Net):Bool:=jO x.n 1 6&&decide (x.aA.length<=12)&&decide (x.aN.length<=4)&&dK (lH x.n) iH x.aA&&dK (zq x.n) pB x.aN
theorem N7(n:Int)(ls:List bC)(ts:List bP)(h1:ls.length<=1048576)(h2:ts.length<=1048576):GH [ii n,.l (ls.map dm),.l (ts.map dM)]=some [bb (pC ⟨n,ls,ts⟩)]:=by
 rw[aj'];simp(disch:=omega) only[↓pq,↓pj,ps,pz,↓reduceIte,af,ah,ai,aj,ak,ap,aq,au,av,Mu,Mw,Mx,Jo]
 rw[show iter _ _ _=(some [bb (dK (lH n) iH ls&&dK (zq n) pB ts)]:Option (List T)) from ?_]
 ·simp(disch:=omega) only[↓pq,↓pj,ps,pz,↓reduceIte,af,ah,ai,aj,ak,ap,aq,au,av,Mu,Mw,lG];unfold pC;grind
 refine(Dw ls.length (λi=>[bb false,ii i]) (λi=>lH n (gt ls i)&&(!decide ((i:Int)>0)||iH (gt ls (i-1:Int)) (gt ls i))) (gT:=some [bb false]) (jx:=some [bb (dK (zq n) pB ts)]) ?_ ?_ (by unfold rounds;omega)).trans ?_
 ·intro i hi s
  simp(disch:=omega) only[↓pq,↓pj,ps,pz,↓reduceIte,af,ah,ai,aj,ak,ap,aq,au,av,Mu,Mw,hi,anI,Xd]
  grind
 ·intro s
  simp(disch:=omega) only[↓pq,↓pj,ps,pz,↓reduceIte,af,ah,ai,aj,ak,ap,aq,au,av,Mu,Mw,]
  refine(Dw ts.length (λi=>[bb false,ii i]) (λi=>zq n (gt ts i)&&(!decide ((i:Int)>0)||pB (gt ts (i-1:Int)) (gt ts i))) (gT:=some [bb false]) (jx:=some [bb true]) ?_ ?_ (by unfold rounds;omega)).trans ?_
  ·intro i hi s
   simp(disch:=omega) only[↓pq,↓pj,ps,pz,↓reduceIte,af,ah,ai,aj,ak,ap,aq,au,av,Mu,Mw,hi,Jo,Xe]
   unfold zq
   grind
  ·intro s
   simp(disch:=omega) only[↓pq,↓pj,ps,pz,↓reduceIte,af,ah,ai,aj,ak,ap,aq,au,av,Mu,Mw,]
  ·rw[lG];unfold dK;simp
 ·rw[lG];unfold dK;simp
theorem anL(n:Int)(ls:List bC)(ts:List bP)(h1:ls.length<=1048576)(h2:ts.length<=1048576):Rb [ii n,.l (ls.map dm),.l (ts.map dM)]=some [bb (pC ⟨n,ls,ts⟩)]:=by
 rw[ame];simp(disch:=omega) only[↓pq,↓pj,ps,pz,↓reduceIte,af,ah,ai,aj,ak,ap,aq,au,av,Nq,Nr,Ns,wl]
 rw[show iter _ _ _=(some [bb (dK (lH n) iH ls&&dK (zq n) pB ts)]:Option (List T)) from ?_]
 ·simp(disch:=omega) only[↓pq,↓pj,ps,pz,↓reduceIte,af,ah,ai,aj,ak,ap,aq,au,av,Nq,Nr,lG];unfold pC;grind
 refine(Dw ls.length (λi=>[bb false,ii i]) (λi=>lH n (gt ls i)&&(!decide ((i:Int)>0)||iH (gt ls (i-1:Int)) (gt ls i))) (gT:=some [bb false]) (jx:=some [bb (dK (zq n) pB ts)]) ?_ ?_ (by unfold rounds;omega)).trans ?_
 ·intro i hi s
  simp(disch:=omega) only[↓pq,↓pj,ps,pz,↓reduceIte,af,ah,ai,aj,ak,ap,aq,au,av,Nq,Nr,hi,anH,anJ]
  grind
 ·intro s
  simp(disch:=omega) only[↓pq,↓pj,ps,pz,↓reduceIte,af,ah,ai,aj,ak,ap,aq,au,av,Nq,Nr,]
  refine(Dw ts.length (λi=>[bb false,ii i]) (λi=>zq n (gt ts i)&&(!decide ((i:Int)>0)||pB (gt ts (i-1:Int)) (gt ts i))) (gT:=some [bb false]) (jx:=some [bb true]) ?_ ?_ (by unfold rounds;omega)).trans ?_
  ·intro i hi s
   simp(disch:=omega) only[↓pq,↓pj,ps,pz,↓reduceIte,af,ah,ai,aj,ak,ap,aq,au,av,Nq,Nr,hi,wl,anK]
   unfold zq
   grind
  ·intro s
   simp(disch:=omega) only[↓pq,↓pj,ps,pz,↓reduceIte,af,ah,ai,aj,ak,ap,aq,au,av,Nq,Nr,]
  ·rw[lG];unfold dK;simp
 ·rw[lG];unfold dK;simp
def eh(a b ar:Int)(l:bC):Bool:=l.ae==ar&&(l.a==a&&l.b==b||l.a==b&&l.b==a)
theorem N8{α:Type}(p:α->Bool)(l:List α):(if dz p l<0 then some [ii (-1)]else some [ii (dz p l)])=some [ii (dz p l)]:=by
 have h:=aiq p l
 by_cases h':dz p l<0
 ·rw[if_pos h',show dz p l=-1 by omega]
 ·rw[if_neg h']
theorem N9(t0 t2:T)(ls:List bC)(a b ar:Int)(h1:ls.length<=1048576):BL [t0,.l (ls.map dm),t2,ii a,ii b,ii ar]=some [ii (dz (eh a b ar) ls)]:=by
 rw[amg];simp(disch:=omega) only[↓pq,↓pj,ps,pz,↓reduceIte,af,ah,ai,aj,ak,ap,aq,au,av,kM_,Nt]
 refine(LQ ls (λi=>[ii 0,ii i]) (eh a b ar) (λi=>some [ii i]) (mb:=some [ii (-1)]) ?_ ?_ (by unfold rounds;omega)).trans (N8 _ _)
 ·intro i hi s
  simp(disch:=omega) only[↓pq,↓pj,ps,pz,↓reduceIte,af,ah,ai,aj,ak,ap,aq,au,av,kM_,hi]
  unfold eh
  grind
 ·intro s
  simp(disch:=omega) only[↓pq,↓pj,ps,pz,↓reduceIte,af,ah,ai,aj,ak,ap,aq,au,av,kM_,]
def lT(ls:List bC)(a b ar:Int):Int:=if dz (eh a b ar) ls<0 then 0 else(gt ls (dz (eh a b ar) ls)).cost
theorem N_(t0 t2:T)(ls:List bC)(a b ar:Int)(h1:ls.length<=1048576):u0 [t0,.l (ls.map dm),t2,ii a,ii b,ii ar]=some [ii (lT ls a b ar)]:=by
 rw[aj5];simp(disch:=omega) only[↓pq,↓pj,ps,pz,↓reduceIte,af,ah,ai,aj,ak,ap,aq,au,av,kH_,Mq]
 refine(LQ ls (λi=>[ii 0,ii i]) (eh a b ar) (λi=>some [ii (gt ls i).cost]) (mb:=some [ii 0]) ?_ ?_ (by unfold rounds;omega)).trans ?_
 ·intro i hi s
  simp(disch:=omega) only[↓pq,↓pj,ps,pz,↓reduceIte,af,ah,ai,aj,ak,ap,aq,au,av,kH_,hi]
  unfold eh
  grind
 ·intro s
  simp(disch:=omega) only[↓pq,↓pj,ps,pz,↓reduceIte,af,ah,ai,aj,ak,ap,aq,au,av,kH_,]
 ·unfold lT
  split<;>rfl
theorem anM(t0 t2:T)(ls:List bC)(a b ar:Int)(h1:ls.length<=1048576):Rg [t0,.l (ls.map dm),t2,ii a,ii b,ii ar]=some [ii (lT ls a b ar)]:=by
 have h:=rz (eh a b ar) ls
 rw[amE];simp(disch:=omega) only[↓pq,↓pj,ps,pz,↓reduceIte,af,ah,ai,aj,ak,ap,aq,au,av,NF,N9]
 unfold lT
 grind
theorem Xf{ls:List bC}{n:Int}(h:dK (lH n) iH ls=true)(a b ar:Int):lT ls a b ar=0↔dz (eh a b ar) ls<0:=by
 unfold lT
 by_cases h':dz (eh a b ar) ls<0
 ·simp[h']
 ·rw[if_neg h']
  have hl:=rz (eh a b ar) ls
  have:=ca.1 h (dz (eh a b ar) ls).toNat (by omega)
  rw[show(((dz (eh a b ar) ls).toNat:Nat):Int)=dz (eh a b ar) ls by omega]at this
  simp only[bI,lH,aZ]at this
  omega
def zr(ok:Int->Int->Bool)(l:List Int):Bool:=
 o7 (l.length/2) λk=>ok (gt l (2*k:Int)) (gt l (2*k+1:Int))&&(!decide ((k:Int)>0)||decide (gt l (2*k-2:Int)<gt l (2*k:Int)∨gt l (2*k-2:Int)=gt l (2*k:Int)∧gt l (2*k-1:Int)<gt l (2*k+1:Int)))
theorem anN(id aV n:Int)(ls:List bC)(t2 t3:T)(hd:List Int)(h1:ls.length<=1048576)(h2:hd.length<=1048576):
  Rc [ii id,ii aV,ii n,.l (ls.map dm),t2,.l (hd.map aD),t3]=some [bb (decide (hd.length%2=0)&&zr (λv a=>decide (0<=dz (eh id v a) ls)) hd)]:=by
 rw[ami];simp(disch:=omega) only[↓pq,↓pj,ps,pz,↓reduceIte,af,ah,ai,aj,ak,ap,aq,au,av,j1_,Nu]
 have hm:=Wh hd.length
 by_cases he:hd.length%2=0
 ·simp only[hm,he,LP,not_true_eq_false,if_false]
  refine(Au (hd.length/2) (λk=>[bb false,ii (2*k)]) (λk=>decide (0<=dz (eh id (gt hd (2*k:Int)) (gt hd (2*k+1:Int))) ls)&&(!decide ((k:Int)>0)||decide (gt hd (2*k-2:Int)<gt hd (2*k:Int)∨gt hd (2*k-2:Int)=gt hd (2*k:Int)∧gt hd (2*k-1:Int)<gt hd (2*k+1:Int)))) (gT:=some [bb false]) (jx:=some [bb true]) rfl (dh (by omega)) ?_ ?_).trans ?_
  ·intro i hi s
   have bE:2*(i:Int)<hd.length:=by omega
   simp(disch:=omega) only[↓pq,↓pj,ps,pz,↓reduceIte,af,ah,ai,aj,ak,ap,aq,au,av,j1_,bE,N9,Int.mul_add]
   grind
  ·intro s
   have bE:¬(2*((hd.length/2:Nat):Int)<hd.length):=by omega
   simp(disch:=omega) only[↓pq,↓pj,ps,pz,↓reduceIte,af,ah,ai,aj,ak,ap,aq,au,av,j1_,bE]
  ·rw[lG];unfold zr;simp
 ·have:¬((hd.length%2:Nat):Int)=0:=by omega
  simp only[hm,this,not_false_eq_true,if_true,he,decide_false,Bool.false_and]
theorem anO(id aV n:Int)(ls:List bC)(t2 t3:T)(hd:List Int)(h1:ls.length<=1048576)(h2:hd.length<=1048576):
  QQ [ii id,ii aV,ii n,.l (ls.map dm),t2,.l (hd.map aD),t3]=some [bb (decide (hd.length%2=0)&&(decide (hd.length<=60)&&zr (λv a=>!decide (lT ls id v a=0)) hd))]:=by
 rw[alg];simp(disch:=omega) only[↓pq,↓pj,ps,pz,↓reduceIte,af,ah,ai,aj,ak,ap,aq,au,av,jv_,M3]
 have hm:=Wh hd.length
 by_cases he:hd.length%2=0
 ·have h9:¬((0:Int)=1):=by decide
  simp only[hm,he,LP,h9,if_false]
  by_cases h6:hd.length<=60
  ·have h7:¬((hd.length:Int)>60):=by omega
   simp only[h7,if_false]
   refine(Au (hd.length/2) (λk=>[bb false,ii (2*k)]) (λk=>!decide (lT ls id (gt hd (2*k:Int)) (gt hd (2*k+1:Int))=0)&&(!decide ((k:Int)>0)||decide (gt hd (2*k-2:Int)<gt hd (2*k:Int)∨gt hd (2*k-2:Int)=gt hd (2*k:Int)∧gt hd (2*k-1:Int)<gt hd (2*k+1:Int)))) (gT:=some [bb false]) (jx:=some [bb true]) rfl (dh (by omega)) ?_ ?_).trans ?_
   ·intro i hi s
    have bE:2*(i:Int)<hd.length:=by omega
    simp(disch:=omega) only[↓pq,↓pj,ps,pz,↓reduceIte,af,ah,ai,aj,ak,ap,aq,au,av,jv_,bE,N_,Int.mul_add]
    grind
   ·intro s
    have bE:¬(2*((hd.length/2:Nat):Int)<hd.length):=by omega
    simp(disch:=omega) only[↓pq,↓pj,ps,pz,↓reduceIte,af,ah,ai,aj,ak,ap,aq,au,av,jv_,bE]
   ·rw[lG];unfold zr;simp[h6]
  ·have h7:((hd.length:Int)>60):=by omega
   simp[h7,h6]
 ·have h8:((hd.length%2:Nat):Int)=1:=by omega
  simp only[hm,h8,if_true,he,decide_false,Bool.false_and]
def wm(o:Int)(l:List cw):Bool:=
 o7 l.length λi=>jO (gt l i).to 1 6&& !decide ((gt l i).to=o)&&jO (gt l i).cost 1 1000&&(!decide ((i:Int)>0)||decide ((gt l (i-1:Int)).to<(gt l i).to))
theorem anP(t0 t1:T)(o:Int)(t3 t4:T)(l:List cw)(t6 t7:T)(h:l.length<=1048576):Rd [t0,t1,ii o,t3,t4,.l (l.map eQ),t6,t7]=some [bb (wm o l)]:=by
 rw[amk];simp(disch:=omega) only[↓pq,↓pj,ps,pz,↓reduceIte,af,ah,ai,aj,ak,ap,aq,au,av,kL_,Nv]
 refine(Au l.length (λi=>[bb false,ii i]) (λi=>jO (gt l i).to 1 6&& !decide ((gt l i).to=o)&&jO (gt l i).cost 1 1000&&(!decide ((i:Int)>0)||decide ((gt l (i-1:Int)).to<(gt l i).to))) (gT:=some [bb false]) (jx:=some [bb true]) rfl (dh h) ?_ ?_).trans (lG _ _ _ |>.trans (by unfold wm;simp))
 ·intro i hi s
  simp(disch:=omega) only[↓pq,↓pj,ps,pz,↓reduceIte,af,ah,ai,aj,ak,ap,aq,au,av,kL_,hi,wl]
  grind
 ·intro s
  simp(disch:=omega) only[↓pq,↓pj,ps,pz,↓reduceIte,af,ah,ai,aj,ak,ap,aq,au,av,kL_,]
theorem anQ(t0 t1:T)(o:Int)(t3 t4:T)(l:List cw)(t6 t7:T)(h:l.length<=1048576):QH [t0,t1,ii o,t3,t4,.l (l.map eQ),t6,t7]=some [bb (wm o l)]:=by
 rw[akn];simp(disch:=omega) only[↓pq,↓pj,ps,pz,↓reduceIte,af,ah,ai,aj,ak,ap,aq,au,av,j0_,MF]
 refine(Au l.length (λi=>[bb false,ii i]) (λi=>jO (gt l i).to 1 6&& !decide ((gt l i).to=o)&&jO (gt l i).cost 1 1000&&(!decide ((i:Int)>0)||decide ((gt l (i-1:Int)).to<(gt l i).to))) (gT:=some [bb false]) (jx:=some [bb true]) rfl (dh h) ?_ ?_).trans (lG _ _ _ |>.trans (by unfold wm;simp))
 ·intro i hi s
  simp(disch:=omega) only[↓pq,↓pj,ps,pz,↓reduceIte,af,ah,ai,aj,ak,ap,aq,au,av,j0_,hi,Jo]
  grind
 ·intro s
  simp(disch:=omega) only[↓pq,↓pj,ps,pz,↓reduceIte,af,ah,ai,aj,ak,ap,aq,au,av,j0_,]
def fu(r:ay):Bool:=
 jO r.owner 1 6&&jO r.seq 1 100000&&
 if r.kind=1 then jO r.ae 0 2&&decide (r.key=0)&&wm r.owner r.bf&&decide (r.cost=0)&& !r.eY
 else if r.kind=2 then jO r.ae 0 2&&jO r.key 1 6&&decide ((r.bf.length:Int)=0)&&jO r.cost 0 60000&& !r.eY
 else if r.kind=3 then decide (r.ae=9)&&jO r.key 1 9&&decide ((r.bf.length:Int)=0)&&(jO r.cost 1 1000||decide (r.cost=60000))
 else false
theorem anR(a k o y s:Int)(l:List cw)(c:Int)(f:Bool)(h:l.length<=1048576):Re [ii a,ii k,ii o,ii y,ii s,.l (l.map eQ),ii c,bb f]=some [bb (fu ⟨a,k,o,y,s,l,c,f⟩)]:=by
 rw[amm];simp(disch:=omega) only[↓pq,↓pj,ps,pz,↓reduceIte,af,ah,ai,aj,ak,ap,aq,au,av,Nw,wl,anP,lG];unfold fu
 grind
theorem Xg(a k o y s:Int)(l:List cw)(c:Int)(f:Bool)(h:l.length<=1048576):GK [ii a,ii k,ii o,ii y,ii s,.l (l.map eQ),ii c,bb f]=some [bb (fu ⟨a,k,o,y,s,l,c,f⟩)]:=by
 rw[akp];simp(disch:=omega) only[↓pq,↓pj,ps,pz,↓reduceIte,af,ah,ai,aj,ak,ap,aq,au,av,MG,Jo,anQ,lG];unfold fu
 grind
def dZ(a b:ay):Bool:=decide (a.ae=b.ae)&&(decide (a.kind=b.kind)&&(decide (a.owner=b.owner)&&decide (a.key=b.key)))
theorem sameKey_iff{a b:ay}:dZ a b=true↔a.ae=b.ae∧a.kind=b.kind∧a.owner=b.owner∧a.key=b.key:=by simp[dZ]
theorem Oa(a k o y:Int)(s:T)(l c f:T)(a' k' o' y':Int)(s' l' c' f':T):BM [ii a,ii k,ii o,ii y,s,l,c,f,ii a',ii k',ii o',ii y',s',l',c',f']=some [bb (dZ ⟨a,k,o,y,0,[],0,false⟩ ⟨a',k',o',y',0,[],0,false⟩)]:=by
 rw[amI];simp(disch:=omega) only[↓pq,↓pj,ps,pz,↓reduceIte,af,ah,ai,aj,ak,ap,aq,au,av,NJ,lG];unfold dZ
 grind
theorem Xh(a k o y:Int)(s:T)(l c f:T)(a' k' o' y':Int)(s' l' c' f':T):GL [ii a,ii k,ii o,ii y,s,l,c,f,ii a',ii k',ii o',ii y',s',l',c',f']=some [bb (dZ ⟨a,k,o,y,0,[],0,false⟩ ⟨a',k',o',y',0,[],0,false⟩)]:=by
 rw[akt];simp(disch:=omega) only[↓pq,↓pj,ps,pz,↓reduceIte,af,ah,ai,aj,ak,ap,aq,au,av,MI,lG];unfold dZ
 grind
def ff(a b:ay):Bool:=decide (a.ae<b.ae∨a.ae=b.ae∧(a.kind<b.kind∨a.kind=b.kind∧(a.owner<b.owner∨a.owner=b.owner∧a.key<b.key)))
theorem rf{a b:ay}:ff a b=true↔a.ae<b.ae∨a.ae=b.ae∧(a.kind<b.kind∨a.kind=b.kind∧(a.owner<b.owner∨a.owner=b.owner∧a.key<b.key)):=by simp[ff]
theorem Ob(a k o y:Int)(s:T)(l c f:T)(a' k' o' y':Int)(s' l' c' f':T):GX [ii a,ii k,ii o,ii y,s,l,c,f,ii a',ii k',ii o',ii y',s',l',c',f']=some [bb (ff ⟨a,k,o,y,0,[],0,false⟩ ⟨a',k',o',y',0,[],0,false⟩)]:=by
 rw[amo];simp(disch:=omega) only[↓pq,↓pj,ps,pz,↓reduceIte,af,ah,ai,aj,ak,ap,aq,au,av,Nx,lG];unfold ff
 grind
theorem Oc(a k o y:Int)(s:T)(l c f:T)(a' k' o' y':Int)(s' l' c' f':T):GI [ii a,ii k,ii o,ii y,s,l,c,f,ii a',ii k',ii o',ii y',s',l',c',f']=some [bb (ff ⟨a,k,o,y,0,[],0,false⟩ ⟨a',k',o',y',0,[],0,false⟩)]:=by
 rw[akh];simp(disch:=omega) only[↓pq,↓pj,ps,pz,↓reduceIte,af,ah,ai,aj,ak,ap,aq,au,av,MB,lG];unfold ff
 grind
theorem Xi(a b:ay):ff ⟨a.ae,a.kind,a.owner,a.key,0,[],0,false⟩ ⟨b.ae,b.kind,b.owner,b.key,0,[],0,false⟩=ff a b:=rfl
def B3(a b:List cw):Bool:=decide (a.length=b.length)&&o7 a.length λi=>decide ((gt a i).to=(gt b i).to)&&decide ((gt a i).cost=(gt b i).cost)
def xb(a b:ay):Bool:=dZ a b&&decide (a.cost=b.cost)&&(a.eY==b.eY)&&B3 a.bf b.bf
theorem Xj(a k o y s:Int)(l:List cw)(c:Int)(f:Bool)(a' k' o' y' s':Int)(l':List cw)(c':Int)(f':Bool)(h:l.length<=1048576):Rk [ii a,ii k,ii o,ii y,ii s,.l (l.map eQ),ii c,bb f,ii a',ii k',ii o',ii y',ii s',.l (l'.map eQ),ii c',bb f']=some [bb (xb ⟨a,k,o,y,s,l,c,f⟩ ⟨a',k',o',y',s',l',c',f'⟩)]:=by
 rw[anf];simp(disch:=omega) only[↓pq,↓pj,ps,pz,↓reduceIte,af,ah,ai,aj,ak,ap,aq,au,av,Rx,NY,Oa]
 by_cases hl:(l.length:Int)=l'.length
 ·rw[show iter _ _ _=(some [bb (B3 l l')]:Option (List T)) from ?_]
  ·rw[show dZ ⟨a,k,o,y,0,[],0,false⟩ ⟨a',k',o',y',0,[],0,false⟩=dZ ⟨a,k,o,y,s,l,c,f⟩ ⟨a',k',o',y',s',l',c',f'⟩ from rfl]
   simp(disch:=omega) only[↓pq,↓pj,ps,pz,↓reduceIte,af,ah,ai,aj,ak,ap,aq,au,av,Rx,lG,hl];unfold xb;grind
  refine(Au l.length (λi=>[bb false,ii i]) (λi=>decide ((gt l i).to=(gt l' i).to)&&decide ((gt l i).cost=(gt l' i).cost)) (gT:=some [bb false]) (jx:=some [bb true]) rfl (dh h) ?_ ?_).trans (lG _ _ _ |>.trans (by unfold B3;simp;omega))
  ·intro i hi s
   simp(disch:=omega) only[↓pq,↓pj,ps,pz,↓reduceIte,af,ah,ai,aj,ak,ap,aq,au,av,Rx,hi]
   grind
  ·intro s
   simp(disch:=omega) only[↓pq,↓pj,ps,pz,↓reduceIte,af,ah,ai,aj,ak,ap,aq,au,av,Rx,]
 ·rw[show dZ ⟨a,k,o,y,0,[],0,false⟩ ⟨a',k',o',y',0,[],0,false⟩=dZ ⟨a,k,o,y,s,l,c,f⟩ ⟨a',k',o',y',s',l',c',f'⟩ from rfl]
  have:B3 l l'=false:=by unfold B3;simp;omega
  simp(disch:=omega) only[↓pq,↓pj,ps,pz,↓reduceIte,af,ah,ai,aj,ak,ap,aq,au,av,Rx,lG,hl,not_false_eq_true];unfold xb;grind
theorem Xk(a k o y s:Int)(l:List cw)(c:Int)(f:Bool)(a' k' o' y' s':Int)(l':List cw)(c':Int)(f':Bool)(h:l.length<=1048576):QU [ii a,ii k,ii o,ii y,ii s,.l (l.map eQ),ii c,bb f,ii a',ii k',ii o',ii y',ii s',.l (l'.map eQ),ii c',bb f']=some [bb (xb ⟨a,k,o,y,s,l,c,f⟩ ⟨a',k',o',y',s',l',c',f'⟩)]:=by
 rw[als];simp(disch:=omega) only[↓pq,↓pj,ps,pz,↓reduceIte,af,ah,ai,aj,ak,ap,aq,au,av,Ru,M8,Xh]
 by_cases hl:(l.length:Int)=l'.length
 ·rw[show iter _ _ _=(some [bb (B3 l l')]:Option (List T)) from ?_]
  ·rw[show dZ ⟨a,k,o,y,0,[],0,false⟩ ⟨a',k',o',y',0,[],0,false⟩=dZ ⟨a,k,o,y,s,l,c,f⟩ ⟨a',k',o',y',s',l',c',f'⟩ from rfl]
   simp(disch:=omega) only[↓pq,↓pj,ps,pz,↓reduceIte,af,ah,ai,aj,ak,ap,aq,au,av,Ru,lG,hl];unfold xb;grind
  refine(Au l.length (λi=>[bb false,ii i]) (λi=>decide ((gt l i).to=(gt l' i).to)&&decide ((gt l i).cost=(gt l' i).cost)) (gT:=some [bb false]) (jx:=some [bb true]) rfl (dh h) ?_ ?_).trans (lG _ _ _ |>.trans (by unfold B3;simp;omega))
  ·intro i hi s
   simp(disch:=omega) only[↓pq,↓pj,ps,pz,↓reduceIte,af,ah,ai,aj,ak,ap,aq,au,av,Ru,hi]
   grind
  ·intro s
   simp(disch:=omega) only[↓pq,↓pj,ps,pz,↓reduceIte,af,ah,ai,aj,ak,ap,aq,au,av,Ru,]
 ·rw[show dZ ⟨a,k,o,y,0,[],0,false⟩ ⟨a',k',o',y',0,[],0,false⟩=dZ ⟨a,k,o,y,s,l,c,f⟩ ⟨a',k',o',y',s',l',c',f'⟩ from rfl]
  have:B3 l l'=false:=by unfold B3;simp;omega
  simp(disch:=omega) only[↓pq,↓pj,ps,pz,↓reduceIte,af,ah,ai,aj,ak,ap,aq,au,av,Ru,lG,hl,not_false_eq_true];unfold xb;grind
def eA(s:List ay):Bool:=decide (s.length<=150)&&dK fu ff s
def bh(s:List ay):Prop:=∀r∈s,r.bf.length<=1048576
theorem bh.gt{s:List ay}(h:bh s){n:Int}(h0:0<=n)(h1:n<s.length):(Go.Proofs.YtjimmglpkndemaaGreatC.gt s n).bf.length<=1048576:=h _ (gZ h0 h1)
theorem Xl(s:List ay)(h:s.length<=1048576)(hn:bh s):GY [.l (s.map aC)]=some [bb (eA s)]:=by
 rw[amq];simp(disch:=omega) only[↓pq,↓pj,ps,pz,↓reduceIte,af,ah,ai,aj,ak,ap,aq,au,av,jY_,Ny]
 refine(Au s.length (λi=>[bb false,ii i]) (λi=>fu (gt s i)&&(!decide ((i:Int)>0)||ff (gt s (i-1:Int)) (gt s i))) (gT:=some [bb false]) (jx:=some [bb (decide (s.length<=150))]) rfl (dh h) ?_ ?_).trans (lG _ _ _ |>.trans (by unfold eA dK;grind))
 ·intro i hi s1
  have:=hn.gt (n:=i) (by omega) hi
  simp(disch:=omega) only[↓pq,↓pj,ps,pz,↓reduceIte,af,ah,ai,aj,ak,ap,aq,au,av,jY_,hi,anR,Ob,Xi]
  grind
 ·intro s1
  simp(disch:=omega) only[↓pq,↓pj,ps,pz,↓reduceIte,af,ah,ai,aj,ak,ap,aq,au,av,jY_,]
  simp;omega
theorem HH(s:List ay)(h:s.length<=1048576)(hn:bh s):xY [.l (s.map aC)]=some [bb (eA s)]:=by
 rw[akr];simp(disch:=omega) only[↓pq,↓pj,ps,pz,↓reduceIte,af,ah,ai,aj,ak,ap,aq,au,av,kc_,MH]
 by_cases h1:s.length<=150
 ·have h2:¬((s.length:Int)>150):=by omega
  simp only[h2,if_false]
  refine(Au s.length (λi=>[bb false,ii i]) (λi=>fu (gt s i)&&(!decide ((i:Int)>0)||ff (gt s (i-1:Int)) (gt s i))) (gT:=some [bb false]) (jx:=some [bb true]) rfl (dh h) ?_ ?_).trans (lG _ _ _ |>.trans (by unfold eA dK;grind))
  ·intro i hi s1
   have:=hn.gt (n:=i) (by omega) hi
   simp(disch:=omega) only[↓pq,↓pj,ps,pz,↓reduceIte,af,ah,ai,aj,ak,ap,aq,au,av,kc_,hi,Xg,Oc,Xi]
   grind
  ·intro s1
   simp(disch:=omega) only[↓pq,↓pj,ps,pz,↓reduceIte,af,ah,ai,aj,ak,ap,aq,au,av,kc_,]
 ·have h2:((s.length:Int)>150):=by omega
  unfold eA
  simp[h2,h1]
theorem Xm(f:Nat->Int):∀(n:Nat),(∀k,k+1<n->f k<f (k+1))->∀k,k<n->f 0+k<=f k
 |n,h,0,_=>by simp
 |n,h,k+1,hk=>by
  have:=Xm f n h k (by omega)
  have:=h k hk
  omega
theorem anS{n:Int}{ls:List bC}(h:dK (lH n) iH ls=true){id:Int}{hd:List Int}(hp:zr (λv a=>decide (0<=dz (eh id v a) ls)) hd=true):hd.length/2<=18:=by
 have hk:=λk hk=>ca.1 hp k hk
 have hj:∀k,k<hd.length/2->1<=gt hd (2*k:Int)∧gt hd (2*k:Int)<=6∧0<=gt hd (2*k+1:Int)∧gt hd (2*k+1:Int)<=2:=by
  intro k nc
  have h1:=hk k nc
  simp only[bI,decide_eq_true_eq]at h1
  have h2:=tE _ _ h1.1
  have h3:=rz (eh id (gt hd (2*k:Int)) (gt hd (2*k+1:Int))) ls
  have h4:=ca.1 h (dz (eh id (gt hd (2*k:Int)) (gt hd (2*k+1:Int))) ls).toNat (by omega)
  rw[show(((dz (eh id (gt hd (2*k:Int)) (gt hd (2*k+1:Int))) ls).toNat:Nat):Int)=dz (eh id (gt hd (2*k:Int)) (gt hd (2*k+1:Int))) ls by omega]at h4
  simp only[eh,bI,Bool.or_eq_true,beq_iff_eq]at h2
  simp only[bI,lH,aZ,decide_eq_true_eq]at h4
  omega
 rcases Nat.eq_zero_or_pos (hd.length/2)with h0|h0
 ·omega
 have:=Xm (λk=>3*gt hd (2*k:Int)+gt hd (2*k+1:Int)) (hd.length/2) (λk nc=>?_) (hd.length/2-1) (by omega)
 ·have h1:=hj 0 (by omega)
  have h2:=hj (hd.length/2-1) (by omega)
  omega
 ·have h1:=hk (k+1) nc
  have h2:=hj k (by omega)
  have h3:=hj (k+1) nc
  simp only[bI,Bool.or_eq_true,decide_eq_true_eq,Bool.not_eq_true',decide_eq_false_iff_not]at h1
  simp only[LN,LO,show(2:Int)*((k:Int)+1)=2*k+2 by omega]at h1 h3⊢
  simp only[show(2:Int)*k+2-2=2*k by omega,show(2:Int)*k+2-1=2*k+1 by omega]at h1
  omega
def jY(x:Self):Bool:=pC x.net&&(jO x.id 1 x.net.n&&(jO x.aV 0 90&&(decide (x.heard.length%2=0)&&zr (λv a=>decide (0<=dz (eh x.id v a) x.net.aA)) x.heard&&eA x.store)))
theorem HI(id aV n:Int)(ls:List bC)(ts:List bP)(hd:List Int)(st:List ay)(h1:ls.length<=1048576)(h2:ts.length<=1048576)(h3:hd.length<=1048576)(h4:st.length<=1048576)(h5:bh st):
  yc [ii id,ii aV,ii n,.l (ls.map dm),.l (ts.map dM),.l (hd.map aD),.l (st.map aC)]=some [bb (jY ⟨id,aV,⟨n,ls,ts⟩,hd,st⟩)]:=by
 rw[ams];simp(disch:=omega) only[↓pq,↓pj,ps,pz,↓reduceIte,af,ah,ai,aj,ak,ap,aq,au,av,Nz,anL,wl,anN,Xl _ h4 h5,lG];unfold jY
 grind
theorem Od(id aV n:Int)(ls:List bC)(ts:List bP)(hd:List Int)(st:List ay)(h1:ls.length<=1048576)(h2:ts.length<=1048576)(h3:hd.length<=1048576)(h4:st.length<=1048576)(h5:bh st):
  BH [ii id,ii aV,ii n,.l (ls.map dm),.l (ts.map dM),.l (hd.map aD),.l (st.map aC)]=some [bb (jY ⟨id,aV,⟨n,ls,ts⟩,hd,st⟩)]:=by
 rw[ali];simp(disch:=omega) only[↓pq,↓pj,ps,pz,↓reduceIte,af,ah,ai,aj,ak,ap,aq,au,av,M4,N7,Jo,anO,HH _ h4 h5,lG]
 have key:pC ⟨n,ls,ts⟩=true->(decide (hd.length<=60)&&zr (λv a=>!decide (lT ls id v a=0)) hd)=zr (λv a=>decide (0<=dz (eh id v a) ls)) hd:=by
  intro hn
  have hl:dK (lH n) iH ls=true:=by simp only[pC,bI]at hn;exact hn.1.2
  have he:(λv a=>!decide (lT ls id v a=0))=λv a=>decide (0<=dz (eh id v a) ls):=by
   funext v a
   have:=Xf hl id v a
   by_cases hc:lT ls id v a=0<;>simp[hc]<;>omega
  rw[he]
  cases hp:zr (λv a=>decide (0<=dz (eh id v a) ls)) hd with
  |false=>simp
  |true=>have:=anS hl hp;simp;omega
 unfold jY
 grind
def yk(a b:List Int):Bool:=decide ((a.length:Int)=b.length)&&o7 a.length λi=>decide (gt a i=gt b i)
theorem oF{a b:List Int}:yk a b=true↔a=b:=by
 simp only[yk,bI,decide_eq_true_eq,ca]
 constructor
 ·rintro⟨h1,h2⟩
  refine List.ext_getElem (by omega) λi hi hj=>?_
  have:=h2 i hi
  rwa[ed hi,ed hj]at this
 ·rintro rfl
  exact⟨rfl,λ_ _=>rfl⟩
theorem anT(a b:List Int)(h:a.length<=1048576):Rf [.l (a.map aD),.l (b.map aD)]=some [bb (yk a b)]:=by
 rw[amy];simp(disch:=omega) only[↓pq,↓pj,ps,pz,↓reduceIte,af,ah,ai,aj,ak,ap,aq,au,av,jq_,NC]
 by_cases hl:(a.length:Int)=b.length
 ·simp only[hl,not_true_eq_false,if_false]
  refine(Au a.length (λi=>[bb false,ii i]) (λi=>decide (gt a i=gt b i)) (gT:=some [bb false]) (jx:=some [bb true]) rfl (dh h) ?_ ?_).trans (lG _ _ _ |>.trans (by unfold yk;simp[hl]))
  ·intro i hi s
   have aO:=hl▸hi
   simp(disch:=omega) only[↓pq,↓pj,ps,pz,↓reduceIte,af,ah,ai,aj,ak,ap,aq,au,av,jq_,hi,aO]
   grind
  ·intro s
   simp(disch:=omega) only[↓pq,↓pj,ps,pz,↓reduceIte,af,ah,ai,aj,ak,ap,aq,au,av,jq_,hl]
 ·unfold yk;simp[hl]
def HJ(c:List Int)(e:eE):List Int:=if e.both=true then c++[e.node,e.ae]else c
def nh(l:List eE):List Int:=l.foldl HJ []
theorem Oe(c:List Int)(e:eE):(HJ c e).length<=c.length+2:=by
 unfold HJ;split<;>simp
theorem HK(l:List eE):(nh l).length<=2*l.length:=
 LR (Inv:=λi (c:List Int)=>c.length<=2*i) (by simp) λi c hi hc=>by have:=Oe c (gt l i);omega
theorem Xn(l:List eE)(h:l.length<=1048576):G0 [.l (l.map bR)]=some [.l ((nh l).map aD)]:=by
 rw[amw];simp(disch:=omega) only[↓pq,↓pj,ps,pz,↓reduceIte,af,ah,ai,aj,ak,ap,aq,au,av,j7_,NB]
 refine g_ l (λi c=>[.l (c.map aD),ii i]) HJ (λc=>some [T.l (c.map aD)]) [] (λi c=>c.length<=2*i) rfl (dh h) (by simp) ?_ ?_
 ·intro i c hi hc
  have hl:=Oe c (gt l i)
  refine⟨by omega,λs=>?_⟩
  simp(disch:=omega) only[↓pq,↓pj,ps,pz,↓reduceIte,af,ah,ai,aj,ak,ap,aq,au,av,j7_,hi]
  unfold HJ
  split<;>rfl
 ·intro c s hc
  simp(disch:=omega) only[↓pq,↓pj,ps,pz,↓reduceIte,af,ah,ai,aj,ak,ap,aq,au,av,j7_,]
theorem anU(l:List eE)(h:l.length<=1048576):QY [.l (l.map bR)]=some [.l ((nh l).map aD)]:=by
 rw[alA];simp(disch:=omega) only[↓pq,↓pj,ps,pz,↓reduceIte,af,ah,ai,aj,ak,ap,aq,au,av,jt_,M9]
 refine g_ l (λi c=>[.l (c.map aD),ii i]) HJ (λc=>some [T.l (c.map aD)]) [] (λi c=>c.length<=2*i) rfl (dh h) (by simp) ?_ ?_
 ·intro i c hi hc
  have hl:=Oe c (gt l i)
  refine⟨by omega,λs=>?_⟩
  simp(disch:=omega) only[↓pq,↓pj,ps,pz,↓reduceIte,af,ah,ai,aj,ak,ap,aq,au,av,jt_,hi]
  unfold HJ
  split<;>rfl
 ·intro c s hc
  simp(disch:=omega) only[↓pq,↓pj,ps,pz,↓reduceIte,af,ah,ai,aj,ak,ap,aq,au,av,jt_,]
def se(ls:List bC)(id:Int)(v:Nat)(c:List eE)(a:Nat):List eE:=if 0<=dz (eh id (v+1) a) ls then c++[⟨v+1,a,0,false⟩]else c
def ET(ls:List bC)(id:Int)(c:List eE)(v:Nat):List eE:=(List.range 3).foldl (se ls id v) c
def o_(ls:List bC)(id n:Int):List eE:=(List.range n.toNat).foldl (ET ls id) []
theorem Xo(ls:List bC)(id:Int)(v:Nat)(c:List eE)(a:Nat):(se ls id v c a).length<=c.length+1:=by
 unfold se;split<;>simp
theorem Og(ls:List bC)(id:Int)(c:List eE)(v:Nat):(ET ls id c v).length<=c.length+3:=by
 unfold ET
 have h1:=Xo ls id v c 0
 have h2:=Xo ls id v (se ls id v c 0) 1
 have h3:=Xo ls id v (se ls id v (se ls id v c 0) 1) 2
 show(se ls id v (se ls id v (se ls id v c 0) 1) 2).length<=_
 omega
theorem Xp(n:Int)(ls:List bC)(t2:T)(id:Int)(h:n<=6)(h1:ls.length<=1048576):GZ [ii n,.l (ls.map dm),t2,ii id]=some [.l ((o_ ls id n).map bR)]:=by
 rw[amu];simp only[NA]
 refine rZ n.toNat (λi c=>[.l (c.map bR),ii (i+1)]) (ET ls id) (λc=>some [T.l (c.map bR)]) [] (λi c=>c.length<=3*i) rfl (dh (by omega)) (by simp) ?_ ?_
 ·intro i c hi hc
  have hl:=Og ls id c i
  refine⟨by omega,λs=>?_⟩
  have aO:(i:Int)+1<=n:=by omega
  simp(disch:=omega) only[↓pq,↓pj,ps,pz,↓reduceIte,af,ah,ai,aj,ak,ap,aq,au,av,W8,W9,aO]
  refine rZ 3 (λa c=>[.l (c.map bR),ii a]) (se ls id i) (λc=>s [T.l (c.map bR),ii ((i+1:Nat)+1)]) c (λa c=>c.length<=3*i+a) rfl (by unfold rounds;omega) (by omega) ?_ ?_
  ·intro a c ha hc
   have hl:=Xo ls id i c a
   refine⟨by omega,λs=>?_⟩
   have xc:(a:Int)<=2:=by omega
   simp(disch:=omega) only[↓pq,↓pj,ps,pz,↓reduceIte,af,ah,ai,aj,ak,ap,aq,au,av,W8,W9,xc,N9]
   unfold se
   split<;>rfl
  ·intro c s' hc
   simp(disch:=omega) only[↓pq,↓pj,ps,pz,↓reduceIte,af,ah,ai,aj,ak,ap,aq,au,av,W8,W9,]
 ·intro c s hc
  have aO:¬((n.toNat:Int)+1<=n):=by omega
  simp(disch:=omega) only[↓pq,↓pj,ps,pz,↓reduceIte,af,ah,ai,aj,ak,ap,aq,au,av,W8,W9,aO]
def uK(want e:eE):Bool:=decide (e.node=want.node)&&(decide (e.ae=want.ae)&&(jO e.left 0 3&& !(e.both&&decide (e.left=0))))
def uL(eW want:List eE):Bool:=decide ((want.length:Int)=eW.length)&&o7 eW.length λi=>uK (gt want i) (gt eW i)
def rh(x:Node):Bool:=jY x.self&&(uL x.eW (o_ x.self.net.aA x.self.id x.self.net.n)&&yk (nh x.eW) x.self.heard)
theorem anV{x:Self}(h:jY x=true):1<=x.net.n∧x.net.n<=6:=by
 simp only[jY,pC,bI,aZ]at h
 exact h.1.1.1.1.1
theorem Oh(ls:List bC)(id n:Int)(h:n<=6):(o_ ls id n).length<=18:=by
 have:=LR (l:=List.range n.toNat) (g:=ET ls id) (c:=[]) (Inv:=λi (c:List eE)=>c.length<=3*i) (by simp) (λi c hi hc=>by have:=Og ls id c (gt (List.range n.toNat) i);omega)
 simp only[List.length_range]at this
 unfold o_
 omega
theorem HL(id aV n:Int)(ls:List bC)(ts:List bP)(hd:List Int)(st:List ay)(es:List eE)(h1:ls.length<=1048576)(h2:ts.length<=1048576)(h3:hd.length<=1048576)(h4:st.length<=1048576)(h5:bh st)(h6:es.length<=1048576):
  Ay [ii id,ii aV,ii n,.l (ls.map dm),.l (ts.map dM),.l (hd.map aD),.l (st.map aC),.l (es.map bR)]=some [bb (rh ⟨⟨id,aV,⟨n,ls,ts⟩,hd,st⟩,es⟩)]:=by
 rw[amA];simp(disch:=omega) only[↓pq,↓pj,ps,pz,↓reduceIte,af,ah,ai,aj,ak,ap,aq,au,av,W_,ND,HI _ _ _ _ _ _ _ h1 h2 h3 h4 h5]
 cases hs:jY ⟨id,aV,⟨n,ls,ts⟩,hd,st⟩with
 |false=>simp[rh,hs]
 |true=>
  have hn:1<=n∧n<=6:=anV hs
  have hw:=Oh ls id n hn.2
  have hb:=HK es
  simp only[not_true_eq_false,if_false]
  simp(disch:=omega) only[↓pq,↓pj,ps,pz,↓reduceIte,af,ah,ai,aj,ak,ap,aq,au,av,W_,Xp n ls _ id hn.2 h1]
  by_cases hl:((o_ ls id n).length:Int)=es.length
  ·simp only[hl,not_true_eq_false,if_false]
   refine(Au es.length (λi=>[bb false,ii i]) (λi=>uK (gt (o_ ls id n) i) (gt es i)) (gT:=some [bb false]) (jx:=some [bb (yk (nh es) hd)]) rfl (dh h6) ?_ ?_).trans (lG _ _ _ |>.trans ?_)
   ·intro i hi s
    have aO:=hl▸hi
    simp(disch:=omega) only[↓pq,↓pj,ps,pz,↓reduceIte,af,ah,ai,aj,ak,ap,aq,au,av,W_,hi,wl]
    unfold uK
    grind
   ·intro s
    simp(disch:=omega) only[↓pq,↓pj,ps,pz,↓reduceIte,af,ah,ai,aj,ak,ap,aq,au,av,W_,Xn _ h6,anT]
   ·unfold rh uL
    simp[hs,hl]
  ·simp only[hl,not_false_eq_true,if_true]
   simp[rh,uL,hl]
structure Xq (ns:List Node):Prop where
 len:∀n∈ns,n.self.store.length<=1048576
 bf:∀n∈ns,bh n.self.store
 heard:∀n∈ns,n.self.heard.length<=1048576
theorem j5_(a k o y s:Int)(l:List cw)(c:Int)(f:Bool)(h:l.length<=1048576):BJ [ii a,ii k,ii o,ii y,ii s,.l (l.map eQ),ii c,bb f]=some [ii a,ii k,ii o,ii y,ii s,.l (l.map eQ),ii c,bb f]:=by
 rw[al0];simp(disch:=omega) only[↓pq,↓pj,ps,pz,↓reduceIte,af,ah,ai,aj,ak,ap,aq,au,av,Ng]
theorem Xr(a k o y s:Int)(l:List cw)(c:Int)(f:Bool)(h:l.length<=1048576):x_ [ii a,ii k,ii o,ii y,ii s,.l (l.map eQ),ii c,bb f]=some [ii a,ii k,ii o,ii y,ii s,.l (l.map eQ),ii c,bb f]:=by
 rw[ak5];simp(disch:=omega) only[↓pq,↓pj,ps,pz,↓reduceIte,af,ah,ai,aj,ak,ap,aq,au,av,MY]
def DM(ar:Int)(r:ay):Bool:=r.ae==ar||r.ae==9
def scope(s:List ay)(ar:Int):List ay:=s.filter (DM ar)
theorem anW(s:List ay)(ar:Int)(h:s.length<=1048576)(hn:bh s):AF [.l (s.map aC),ii ar]=some [.l ((scope s ar).map aC)]:=by
 rw[anq];simp(disch:=omega) only[↓pq,↓pj,ps,pz,↓reduceIte,af,ah,ai,aj,ak,ap,aq,au,av,HA,N2]
 refine(g_ s (λi c=>[.l (c.map aC),ii i]) (λc a=>if DM ar a=true then c++[a]else c) (λc=>some [T.l (c.map aC)]) [] (λi c=>c.length<=i) rfl (dh h) (by simp) ?_ ?_).trans (by rw[Dx,List.nil_append,<-scope])
 ·intro i c hi hc
  refine⟨by split<;>(try simp)<;>omega,λk=>?_⟩
  have:=hn.gt (n:=i) (by omega) hi
  simp(disch:=omega) only[↓pq,↓pj,ps,pz,↓reduceIte,af,ah,ai,aj,ak,ap,aq,au,av,HA,hi,j5_]
  unfold DM
  grind
 ·intro c k hc
  simp(disch:=omega) only[↓pq,↓pj,ps,pz,↓reduceIte,af,ah,ai,aj,ak,ap,aq,au,av,HA,]
theorem HM(s:List ay)(ar:Int)(h:s.length<=1048576)(hn:bh s):BI [.l (s.map aC),ii ar]=some [.l ((scope s ar).map aC)]:=by
 rw[alE];simp(disch:=omega) only[↓pq,↓pj,ps,pz,↓reduceIte,af,ah,ai,aj,ak,ap,aq,au,av,Hs,Na]
 refine(g_ s (λi c=>[.l (c.map aC),ii i]) (λc a=>if DM ar a=true then c++[a]else c) (λc=>some [T.l (c.map aC)]) [] (λi c=>c.length<=i) rfl (dh h) (by simp) ?_ ?_).trans (by rw[Dx,List.nil_append,<-scope])
 ·intro i c hi hc
  refine⟨by split<;>(try simp)<;>omega,λk=>?_⟩
  have:=hn.gt (n:=i) (by omega) hi
  simp(disch:=omega) only[↓pq,↓pj,ps,pz,↓reduceIte,af,ah,ai,aj,ak,ap,aq,au,av,Hs,hi,Xr]
  unfold DM
  grind
 ·intro c k hc
  simp(disch:=omega) only[↓pq,↓pj,ps,pz,↓reduceIte,af,ah,ai,aj,ak,ap,aq,au,av,Hs,]
theorem Oi(s:List ay)(a k o y:Int)(t4 t5 t6 t7:T)(h:s.length<=1048576):u9 [.l (s.map aC),ii a,ii k,ii o,ii y,t4,t5,t6,t7]=some [ii (dz (λx=>dZ x ⟨a,k,o,y,0,[],0,false⟩) s)]:=by
 rw[amS];simp(disch:=omega) only[↓pq,↓pj,ps,pz,↓reduceIte,af,ah,ai,aj,ak,ap,aq,au,av,Hv,NP]
 refine(Jc s (λi=>[ii 0,ii i]) (λx=>dZ x ⟨a,k,o,y,0,[],0,false⟩) (λi=>some [ii i]) (mb:=some [ii (-1)]) rfl (dh h) ?_ ?_).trans (N8 _ _)
 ·intro i hi q
  simp(disch:=omega) only[↓pq,↓pj,ps,pz,↓reduceIte,af,ah,ai,aj,ak,ap,aq,au,av,Hv,hi,Oa]
  rfl
 ·intro q
  simp(disch:=omega) only[↓pq,↓pj,ps,pz,↓reduceIte,af,ah,ai,aj,ak,ap,aq,au,av,Hv,]
theorem DN(s:List ay)(a k o y:Int)(t4 t5 t6 t7:T)(h:s.length<=1048576):xZ [.l (s.map aC),ii a,ii k,ii o,ii y,t4,t5,t6,t7]=some [ii (dz (λx=>dZ x ⟨a,k,o,y,0,[],0,false⟩) s)]:=by
 rw[akv];simp(disch:=omega) only[↓pq,↓pj,ps,pz,↓reduceIte,af,ah,ai,aj,ak,ap,aq,au,av,Hj,MJ]
 refine(Jc s (λi=>[ii 0,ii i]) (λx=>dZ x ⟨a,k,o,y,0,[],0,false⟩) (λi=>some [ii i]) (mb:=some [ii (-1)]) rfl (dh h) ?_ ?_).trans (N8 _ _)
 ·intro i hi q
  simp(disch:=omega) only[↓pq,↓pj,ps,pz,↓reduceIte,af,ah,ai,aj,ak,ap,aq,au,av,Hj,hi,Xh]
  rfl
 ·intro q
  simp(disch:=omega) only[↓pq,↓pj,ps,pz,↓reduceIte,af,ah,ai,aj,ak,ap,aq,au,av,Hj,]
def bG(s:List ay)(r:ay):Int:=dz (λx=>dZ x r) s
theorem Oj(s:List ay)(r:ay):dz (λx=>dZ x ⟨r.ae,r.kind,r.owner,r.key,0,[],0,false⟩) s=bG s r:=rfl
theorem Ol(s:List ay)(h:s.length<=1048576)(hn:bh s):BK [.l (s.map aC)]=some [.l (s.map aC)]:=by
 rw[al2];simp(disch:=omega) only[↓pq,↓pj,ps,pz,↓reduceIte,af,ah,ai,aj,ak,ap,aq,au,av,uW_,Nh]
 refine(g_ s (λi c=>[.l (c.map aC),ii i]) (λc a=>c++[id a]) (λc=>some [T.l (c.map aC)]) [] (λi c=>c.length<=i) rfl (dh h) (by simp) ?_ ?_).trans (show some [T.l ((s.foldl (λc a=>c++[id a]) []).map aC)]=some [T.l (s.map aC)] by rw[foldl_map];simp)
 ·intro i c hi hc
  refine⟨by simp;omega,λk=>?_⟩
  have:=hn.gt (n:=i) (by omega) hi
  simp(disch:=omega) only[↓pq,↓pj,ps,pz,↓reduceIte,af,ah,ai,aj,ak,ap,aq,au,av,uW_,hi,j5_]
  rfl
 ·intro c k hc
  simp(disch:=omega) only[↓pq,↓pj,ps,pz,↓reduceIte,af,ah,ai,aj,ak,ap,aq,au,av,uW_,]
theorem Jp(s:List ay)(h:s.length<=1048576)(hn:bh s):sJ [.l (s.map aC)]=some [.l (s.map aC)]:=by
 rw[ak7];simp(disch:=omega) only[↓pq,↓pj,ps,pz,↓reduceIte,af,ah,ai,aj,ak,ap,aq,au,av,u0_,MZ]
 refine(g_ s (λi c=>[.l (c.map aC),ii i]) (λc a=>c++[id a]) (λc=>some [T.l (c.map aC)]) [] (λi c=>c.length<=i) rfl (dh h) (by simp) ?_ ?_).trans (show some [T.l ((s.foldl (λc a=>c++[id a]) []).map aC)]=some [T.l (s.map aC)] by rw[foldl_map];simp)
 ·intro i c hi hc
  refine⟨by simp;omega,λk=>?_⟩
  have:=hn.gt (n:=i) (by omega) hi
  simp(disch:=omega) only[↓pq,↓pj,ps,pz,↓reduceIte,af,ah,ai,aj,ak,ap,aq,au,av,u0_,hi,Xr]
  rfl
 ·intro c k hc
  simp(disch:=omega) only[↓pq,↓pj,ps,pz,↓reduceIte,af,ah,ai,aj,ak,ap,aq,au,av,u0_,]
def dx(s:List ay)(r:ay):List ay:=s.filter (λx=>ff x r)++([r]++s.filter (λx=>ff r x))
abbrev jk(s:List ay):Prop:=s.Pairwise λa b=>ff a b=true
theorem HN{a b c:ay}(h:ff a b=true)(h':ff b c=true):ff a c=true:=by rw[rf]at *;omega
theorem HO(a:ay):ff a a=false:=by
 cases h:ff a a with
 |false=>rfl
 |true=>rw[rf]at h;omega
theorem DO{a b:ay}(h:ff a b=true):ff b a=false:=by
 cases h':ff b a with
 |false=>rfl
 |true=>rw[rf]at *;omega
theorem Xs{a b:ay}(h:ff a b=true):dZ a b=false:=by
 cases h':dZ a b with
 |false=>rfl
 |true=>rw[rf]at h;rw[sameKey_iff]at h';omega
theorem Xt{a b:ay}(h:ff a b=false)(h':dZ a b=false):ff b a=true:=by
 have h1:¬(ff a b=true):=by rw[h];decide
 have h2:¬(dZ a b=true):=by rw[h'];decide
 rw[rf]at h1⊢
 rw[sameKey_iff]at h2
 omega
theorem Xu{a b r:ay}(h:dZ a b=true):ff a r=ff b r∧ff r a=ff r b:=by
 rw[sameKey_iff]at h
 constructor
 ·rw[Bool.eq_iff_iff,rf,rf];omega
 ·rw[Bool.eq_iff_iff,rf,rf];omega
theorem anX{s:List ay}(h:dK fu ff s=true):jk s:=by
 have h:=ca.1 h
 rw[jk,List.pairwise_iff_getElem]
 have step:∀i,(hi:i+1<s.length)->ff s[i] s[i+1]=true:=by
  intro i hi
  have:=h (i+1) hi
  simp only[bI,Bool.or_eq_true,Bool.not_eq_true',decide_eq_false_iff_not]at this
  have h2:=this.2.resolve_left (by omega)
  rwa[show(((i+1:Nat):Int)-1)=(i:Int) by omega,ed (by omega),ed hi]at h2
 intro i j hi hj qu
 obtain⟨d,rfl⟩:∃d,j=i+1+d:=⟨j-i-1,by omega⟩
 clear qu
 induction d with
 |zero=>exact step i (by omega)
 |succ d ih=>exact HN (ih (by omega)) (step (i+1+d) (by omega))
theorem B4{s:List ay}(h:eA s=true):jk s:=by
 simp only[eA,bI]at h;exact anX h.2
theorem Jq{s:List ay}(h:jk s)(r:ay):jk (dx s r):=by
 unfold dx jk
 rw[List.pairwise_append]
 refine⟨h.filter _,?_,?_⟩
 ·rw[List.pairwise_append]
  refine⟨by simp,h.filter _,?_⟩
  intro a ha b hb
  rw[List.mem_singleton]at ha
  subst ha
  exact(List.mem_filter.1 hb).2
 ·intro a ha b hb
  have ha:=(List.mem_filter.1 ha).2
  rcases List.mem_append.1 hb with hb|hb
  ·rw[List.mem_singleton]at hb
   subst hb;exact ha
  ·exact HN ha (List.mem_filter.1 hb).2
theorem HP(s:List ay)(r:ay):(dx s r).length<=s.length+1:=by
 unfold dx
 have:(s.filter (λx=>ff x r)).length+(s.filter (λx=>ff r x)).length<=s.length:=by
  induction s with
  |nil=>simp
  |cons x s ih=>
   simp only[List.filter_cons]
   cases h:ff x r with
   |true=>simp[DO h];omega
   |false=>cases h':ff r x<;>simp<;>omega
 simp;omega
theorem zt{s:List ay}{r x:ay}(h:x∈dx s r):x=r∨x∈s:=by
 unfold dx at h
 rcases List.mem_append.1 h with h|h
 ·exact .inr (List.mem_filter.1 h).1
 ·rcases List.mem_append.1 h with h|h
  ·exact .inl (List.mem_singleton.1 h)
  ·exact .inr (List.mem_filter.1 h).1
theorem Xv{s:List ay}{r:ay}(h:bh s)(hr:r.bf.length<=1048576):bh (dx s r):=λx hx=>by
 rcases zt hx with rfl|hx
 ·exact hr
 ·exact h x hx
def jE(s:List ay)(r:ay):Nat:=(s.filter (λx=>ff x r)).length
theorem anY(s:List ay)(r:ay):jE s r<=s.length:=List.length_filter_le _ _
theorem Xw{s:List ay}(h:jk s)(r:ay):s.take (jE s r)=s.filter (λx=>ff x r)∧(∀i,(hi:i<s.length)->(ff s[i] r=true↔i<jE s r)):=by
 induction s with
 |nil=>simp[jE]
 |cons x s ih=>
  have hs:=List.pairwise_cons.1 h
  have ih:=ih hs.2
  cases hx:ff x r with
  |true=>
   have e:jE (x::s) r=jE s r+1:=by simp[jE,List.filter_cons,hx]
   rw[e]
   refine⟨by rw[List.take_succ_cons,ih.1,List.filter_cons,hx];rfl,λi hi=>?_⟩
   cases i with
   |zero=>simp[hx]
   |succ i=>
    rw[List.getElem_cons_succ]
    have:=ih.2 i (by simpa using hi)
    rw[this];omega
  |false=>
   have none:∀y∈s,ff y r=false:=by
    intro y hy
    cases hyr:ff y r with
    |false=>rfl
    |true=>rw[HN (hs.1 y hy) hyr]at hx;cases hx
   have e:(x::s).filter (λx=>ff x r)=[]:=by
    rw[List.filter_eq_nil_iff]
    intro y hy
    rcases List.mem_cons.1 hy with rfl|hy
    ·rw[hx];decide
    ·rw[none y hy];decide
   have e2:jE (x::s) r=0:=by unfold jE;rw[e];rfl
   rw[e2,e]
   refine⟨rfl,λi hi=>⟨λh3=>?_,λh3=>absurd h3 (by omega)⟩⟩
   cases i with
   |zero=>rw[List.getElem_cons_zero,hx]at h3;cases h3
   |succ i=>rw[List.getElem_cons_succ,none _ (List.getElem_mem _)]at h3;cases h3
theorem anZ{s:List ay}(h:jk s)(r:ay):s.drop (jE s r+(if jE s r<s.length∧dZ (gt s (jE s r:Nat)) r=true then 1 else 0))=s.filter (λx=>ff r x):=by
 have l8:=Xw h r
 have h1:s.filter (λx=>ff r x)=(s.drop (jE s r)).filter (λx=>ff r x):=by
  have e0:s.filter (λx=>ff r x)=(s.take (jE s r)++s.drop (jE s r)).filter (λx=>ff r x):=by rw[List.take_append_drop]
  rw[e0,List.filter_append,l8.1]
  have e:(List.filter (λx=>ff x r) s).filter (λx=>ff r x)=[]:=by
   rw[List.filter_eq_nil_iff]
   intro y hy
   rw[DO (List.mem_filter.1 hy).2];decide
  rw[e,List.nil_append]
 rw[h1]
 have hd:∀x∈s.drop (jE s r),ff x r=false:=by
  intro x hx
  obtain⟨i,hi,rfl⟩:=List.mem_iff_getElem.1 hx
  rw[List.getElem_drop]
  cases hc:ff (s[jE s r+i]'(by simp at hi;omega)) r with
  |false=>rfl
  |true=>have:=(l8.2 _ (by simp at hi;omega)).1 hc;omega
 have hp:jk (s.drop (jE s r)):=h.drop
 by_cases bE:jE s r<s.length
 ·have hg:=ed bE
  rw[hg]
  rw[List.drop_eq_getElem_cons bE]at hd hp⊢
  have Br:=List.pairwise_cons.1 hp
  by_cases hk:dZ s[jE s r] r=true
  ·rw[if_pos ⟨bE,hk⟩,List.filter_cons,(Xu hk).2▸HO r|>λ(e:ff r s[jE s r]=false)=>e,if_neg (by decide)]
   refine(List.filter_eq_self.2 λx hx=>?_).symm
   rw[<-(Xu hk).1]
   exact Br.1 x hx
  ·rw[if_neg (by simp[hk]),Nat.add_zero,List.drop_eq_getElem_cons bE]
   refine(List.filter_eq_self.2 λx hx=>?_).symm
   have h0:=Xt (hd _ (.head _)) (by simpa using hk)
   rcases List.mem_cons.1 hx with rfl|hx
   ·exact h0
   ·exact HN h0 (Br.1 x hx)
 ·rw[List.drop_eq_nil_iff.2 (by omega),List.drop_eq_nil_iff.2 (by omega)]
  rfl
theorem bh.take{s:List ay}(h:bh s)(n:Nat):bh (s.take n):=λr hr=>h r (List.mem_of_mem_take hr)
theorem bh.drop{s:List ay}(h:bh s)(n:Nat):bh (s.drop n):=λr hr=>h r (List.mem_of_mem_drop hr)
theorem AO{β σ:Type}{F:(σ->Option β)->σ->Option β}{R:Nat}{x:σ}(st:Nat->σ)(n:Nat){out:Option β}(hx:x=st 0)(hR:n<R)(step:∀i:Nat,(i:Int)<(n:Int)->∀s,F s (st i)=s (st (i+1)))(fin:∀s,F s (st n)=out):iter F R x=out:=by
 have:=Au (F:=F) (R:=R) (x:=x) n st (λ_=>true) (jx:=out) (gT:=out) hx hR (λi hi s=>by simpa using step i hi s) fin
 rw[this];simp
theorem HQ(s:List ay)(a k o y q:Int)(l:List cw)(c:Int)(f:Bool)(h:s.length<=1048570)(hn:bh s)(hs:jk s)(hl:l.length<=1048576):
  ux [.l (s.map aC),ii a,ii k,ii o,ii y,ii q,.l (l.map eQ),ii c,bb f]=some [.l ((dx s ⟨a,k,o,y,q,l,c,f⟩).map aC)]:=by
 obtain⟨r,hr⟩:∃r:ay,r=⟨a,k,o,y,q,l,c,f⟩:=⟨_,rfl⟩
 have hle:=anY s r
 have l8:=Xw hs r
 have Bu:=anZ hs r
 rw[amK];simp(disch:=omega) only[↓pq,↓pj,ps,pz,↓reduceIte,af,ah,ai,aj,ak,ap,aq,au,av,NK,NL]
 refine AO (λi=>[ii i]) (jE s r) rfl (dh (by omega)) ?_ ?_
 ·intro i hi w
  have aO:(i:Int)<s.length:=by omega
  have hb:ff (gt s i) r=true:=by rw[ed (by omega)];exact(l8.2 i (by omega)).2 (by omega)
  have kl:ff ⟨(gt s i).ae,(gt s i).kind,(gt s i).owner,(gt s i).key,0,[],0,false⟩ ⟨a,k,o,y,0,[],0,false⟩=true:=by rw[<-hb,hr];rfl
  simp(disch:=omega) only[↓pq,↓pj,ps,pz,↓reduceIte,af,ah,ai,aj,ak,ap,aq,au,av,NK,aO,Ob,kl]
 ·intro w
  have ht:((jE s r:Nat):Int).toNat=jE s r:=Int.toNat_natCast _
  have qI:(s.take (jE s r)).length<=1048570:=by simp;omega
  by_cases bE:jE s r<s.length
  ·have aO:((jE s r:Nat):Int)<s.length:=by omega
   have hb:ff (gt s (jE s r:Nat)) r=false:=by
    rw[ed bE]
    cases hc:ff s[jE s r] r with
    |false=>rfl
    |true=>have:=(l8.2 _ bE).1 hc;omega
   have kl:ff ⟨(gt s (jE s r:Nat)).ae,(gt s (jE s r:Nat)).kind,(gt s (jE s r:Nat)).owner,(gt s (jE s r:Nat)).key,0,[],0,false⟩ ⟨a,k,o,y,0,[],0,false⟩=false:=by rw[<-hb,hr];rfl
   have nc:dZ ⟨(gt s (jE s r:Nat)).ae,(gt s (jE s r:Nat)).kind,(gt s (jE s r:Nat)).owner,(gt s (jE s r:Nat)).key,0,[],0,false⟩ ⟨a,k,o,y,0,[],0,false⟩=dZ (gt s (jE s r:Nat)) r:=by rw[hr];rfl
   simp(disch:=omega) only[↓pq,↓pj,ps,pz,↓reduceIte,af,ah,ai,aj,ak,ap,aq,au,av,NK,aO,Ob,kl,ht,Ol _ (show(s.take (jE s r)).length<=1048576 by omega) (hn.take _),j5_,Oa,nc,cI]
   cases hk:dZ (gt s (jE s r:Nat)) r with
   |true=>
    have J4:(((jE s r:Nat):Int)+1).toNat=jE s r+1:=by omega
    have hd:=Ol (s.drop (jE s r+1)) (by simp;omega) (hn.drop _)
    rw[if_pos ⟨bE,hk⟩]at Bu
    simp only[if_true]
    simp(disch:=omega) only[↓pq,↓pj,ps,pz,↓reduceIte,af,ah,ai,aj,ak,ap,aq,au,av,NK,J4,hd]
    rw[V1 (by simp;omega),fU,Bu,l8.1,<-hr,List.append_assoc]
    rfl
   |false=>
    have hd:=Ol (s.drop (jE s r)) (by simp;omega) (hn.drop _)
    rw[if_neg (by simp[hk]),Nat.add_zero]at Bu
    simp only[cI,if_false]
    simp(disch:=omega) only[↓pq,↓pj,ps,pz,↓reduceIte,af,ah,ai,aj,ak,ap,aq,au,av,NK,ht,hd]
    rw[V1 (by simp;omega),fU,Bu,l8.1,<-hr,List.append_assoc]
    rfl
  ·have aO:¬(((jE s r:Nat):Int)<s.length):=by omega
   have hd:=Ol (s.drop (jE s r)) (by simp;omega) (hn.drop _)
   rw[if_neg (by simp[bE]),Nat.add_zero]at Bu
   simp(disch:=omega) only[↓pq,↓pj,ps,pz,↓reduceIte,af,ah,ai,aj,ak,ap,aq,au,av,NK,aO,ht,Ol _ (show(s.take (jE s r)).length<=1048576 by omega) (hn.take _),j5_,hd]
   rw[V1 (by simp;omega),fU,Bu,l8.1,<-hr,List.append_assoc]
   rfl
theorem Om(s:List ay)(a k o y q:Int)(l:List cw)(c:Int)(f:Bool)(h:s.length<=1048570)(hn:bh s)(hl:l.length<=1048576):
  uu [.l (s.map aC),ii a,ii k,ii o,ii y,ii q,.l (l.map eQ),ii c,bb f]=some [.l ((dx s ⟨a,k,o,y,q,l,c,f⟩).map aC)]:=by
 obtain⟨r,hr⟩:∃r:ay,r=⟨a,k,o,y,q,l,c,f⟩:=⟨_,rfl⟩
 have hb:∀x:ay,ff ⟨x.ae,x.kind,x.owner,x.key,0,[],0,false⟩ ⟨a,k,o,y,0,[],0,false⟩=ff x r:=λx=>by rw[hr];rfl
 have kl:∀x:ay,ff ⟨a,k,o,y,0,[],0,false⟩ ⟨x.ae,x.kind,x.owner,x.key,0,[],0,false⟩=ff r x:=λx=>by rw[hr];rfl
 rw[akj];simp(disch:=omega) only[↓pq,↓pj,ps,pz,↓reduceIte,af,ah,ai,aj,ak,ap,aq,au,av,Rq,Rr,MC]
 refine(g_ s (λi c=>[.l (c.map aC),ii i]) (λc x=>if ff x r=true then c++[x]else c) (λd=>some [T.l ((s.foldl (λc x=>if ff r x=true then c++[x]else c) (d++[r])).map aC)]) [] (λi c=>c.length<=i) rfl (dh (by omega)) (by simp) ?_ ?_).trans ?_
 ·intro i c hi hc
  refine⟨by split<;>(try simp)<;>omega,λw=>?_⟩
  have:=hn.gt (n:=i) (by omega) hi
  simp(disch:=omega) only[↓pq,↓pj,ps,pz,↓reduceIte,af,ah,ai,aj,ak,ap,aq,au,av,Rq,Rr,hi,Oc,hb]
  split<;>rfl
 ·intro d w hd
  simp(disch:=omega) only[↓pq,↓pj,ps,pz,↓reduceIte,af,ah,ai,aj,ak,ap,aq,au,av,Rq,Rr,]
  rw[<-hr]
  refine g_ s (λi c=>[.l (c.map aC),ii i]) (λc x=>if ff r x=true then c++[x]else c) (λc=>some [T.l (c.map aC)]) (d++[r]) (λi c=>c.length<=d.length+1+i) rfl (dh (by omega)) (by simp) ?_ ?_
  ·intro i c hi hc
   refine⟨by split<;>(try simp)<;>omega,λw=>?_⟩
   have:=hn.gt (n:=i) (by omega) hi
   simp(disch:=omega) only[↓pq,↓pj,ps,pz,↓reduceIte,af,ah,ai,aj,ak,ap,aq,au,av,Rq,Rr,hi,Oc,kl]
   split<;>rfl
  ·intro c w hc
   simp(disch:=omega) only[↓pq,↓pj,ps,pz,↓reduceIte,af,ah,ai,aj,ak,ap,aq,au,av,Rq,Rr,]
 ·rw[Dx,Dx,<-hr]
  unfold dx
  simp
theorem an0{s:List ay}{r:ay}{n:Nat}(h:s.length+1<=n):(dx s r).length<=n:=Nat.le_trans (HP s r) h
def xd:List Int:=[1,2,3,4,5,6]
def fo(l:List Int):Prop:=l.Pairwise (· < ·)∧∀x∈l,1<=x∧x<=6
theorem HR:∀{a b:List Int},a.Pairwise (· < ·)->b.Pairwise (· < ·)->(∀x,x∈a↔x∈b)->a=b
 | [],[],_,_,_=>rfl
 | [],y::b,_,_,h=>absurd ((h y).2 (.head _)) (by simp)
 |x::a,[],_,_,h=>absurd ((h x).1 (.head _)) (by simp)
 |x::a,y::b,ha,hb,h=>by
  have xc:=List.pairwise_cons.1 ha
  have kl:=List.pairwise_cons.1 hb
  have Kx:x=y:=by
   rcases List.mem_cons.1 ((h x).1 (.head _))with e|e
   ·exact e
   ·rcases List.mem_cons.1 ((h y).2 (.head _))with e'|e'
    ·exact e'.symm
    ·have:=kl.1 x e;have:=xc.1 y e';omega
  subst Kx
  have:a=b:=HR xc.2 kl.2 λz=>by
   constructor
   ·intro hz
    rcases List.mem_cons.1 ((h z).1 (.tail _ hz))with e|e
    ·subst e;have:=xc.1 z hz;omega
    ·exact e
   ·intro hz
    rcases List.mem_cons.1 ((h z).2 (.tail _ hz))with e|e
    ·subst e;have:=kl.1 z hz;omega
    ·exact e
  rw[this]
def AP(a b:List Int):List Int:=xd.filter λx=>a.contains x||b.contains x
theorem pc:xd.Pairwise (· < ·):=by unfold xd;simp
theorem HS(a b:List Int):fo (AP a b):=by
 refine⟨pc.filter _,λx hx=>?_⟩
 have:=(List.mem_filter.1 hx).1
 simp[xd]at this
 omega
theorem iy{x:Int}:x∈xd↔1<=x∧x<=6:=by simp[xd];omega
theorem HT{a b:List Int}{x:Int}:x∈AP a b↔(1<=x∧x<=6)∧(x∈a∨x∈b):=by
 unfold AP
 rw[List.mem_filter,iy]
 simp
theorem Xx{a:List Int}(h:fo a):AP [] a=a:=
 HR (HS _ _).1 h.1 λx=>by
  rw[HT]
  exact⟨λh'=>h'.2.resolve_left (by simp),λh'=>⟨h.2 x h',.inr h'⟩⟩
theorem sf{a:List Int}(h:fo a):a.length<=6:=by
 have e:AP [] a=a:=Xx h
 rw[<-e]
 exact List.length_filter_le _ _
theorem DP:fo []:=⟨.nil,by simp⟩
theorem Jr{n:Int}(h:1<=n)(h':n<=6):fo [n]:=⟨by simp,by simp;omega⟩
theorem zu(l:List Int)(n:Int)(h:l.length<=1048576):BN [.l (l.map aD),ii n]=some [bb (l.contains n)]:=by
 rw[amM];simp(disch:=omega) only[↓pq,↓pj,ps,pz,↓reduceIte,af,ah,ai,aj,ak,ap,aq,au,av,kG_,NM]
 refine(Jc l (λi=>[bb false,ii i]) (λx=>x==n) (λ_=>some [bb true]) (mb:=some [bb false]) rfl (dh h) ?_ ?_).trans ?_
 ·intro i hi q
  simp(disch:=omega) only[↓pq,↓pj,ps,pz,↓reduceIte,af,ah,ai,aj,ak,ap,aq,au,av,kG_,hi]
 ·intro q
  simp(disch:=omega) only[↓pq,↓pj,ps,pz,↓reduceIte,af,ah,ai,aj,ak,ap,aq,au,av,kG_,]
 ·rw[lG]
  congr 3
  by_cases hf:dz (λx=>x==n) l<0
  ·rw[if_pos hf]
   have:=(EN _ _).1 hf
   cases hc:l.contains n with
   |false=>rfl
   |true=>
    have hm:=List.contains_iff_mem.1 hc
    have:=this n hm
    simp at this
  ·rw[if_neg hf]
   have:=tE _ _ (by omega:0<=dz (λx=>x==n) l)
   have hm:=gZ (l:=l) (n:=dz (λx=>x==n) l) (by omega) (rz _ _)
   rw[beq_iff_eq]at this
   rw[this]at hm
   exact(List.contains_iff_mem.2 hm).symm
theorem Xy(l:List Int)(n:Int)(h:l.length<=1048576):QK [.l (l.map aD),ii n]=some [bb (l.contains n)]:=by
 rw[akD];simp(disch:=omega) only[↓pq,↓pj,ps,pz,↓reduceIte,af,ah,ai,aj,ak,ap,aq,au,av,Hk,MN]
 refine(Jc l (λi=>[bb false,ii i]) (λx=>x==n) (λ_=>some [bb true]) (mb:=some [bb false]) rfl (dh h) ?_ ?_).trans ?_
 ·intro i hi q
  simp(disch:=omega) only[↓pq,↓pj,ps,pz,↓reduceIte,af,ah,ai,aj,ak,ap,aq,au,av,Hk,hi]
 ·intro q
  simp(disch:=omega) only[↓pq,↓pj,ps,pz,↓reduceIte,af,ah,ai,aj,ak,ap,aq,au,av,Hk,]
 ·rw[lG]
  congr 3
  by_cases hf:dz (λx=>x==n) l<0
  ·rw[if_pos hf]
   have:=(EN _ _).1 hf
   cases hc:l.contains n with
   |false=>rfl
   |true=>
    have hm:=List.contains_iff_mem.1 hc
    have:=this n hm
    simp at this
  ·rw[if_neg hf]
   have:=tE _ _ (by omega:0<=dz (λx=>x==n) l)
   have hm:=gZ (l:=l) (n:=dz (λx=>x==n) l) (by omega) (rz _ _)
   rw[beq_iff_eq]at this
   rw[this]at hm
   exact(List.contains_iff_mem.2 hm).symm
theorem rC(l:List Int)(h:l.length<=1048576):o8 [.l (l.map aD)]=some [.l (l.map aD)]:=by
 rw[alY];simp(disch:=omega) only[↓pq,↓pj,ps,pz,↓reduceIte,af,ah,ai,aj,ak,ap,aq,au,av,Nf]
theorem Ry(a b:Int)(l:List Int)(h:l.length<=1048576):u_ [ii a,ii b,.l (l.map aD)]=some [ii a,ii b,.l (l.map aD)]:=by
 rw[amY];simp(disch:=omega) only[↓pq,↓pj,ps,pz,↓reduceIte,af,ah,ai,aj,ak,ap,aq,au,av,NS,rC]
theorem On(a b:Int)(l:List Int)(h:l.length<=1048576):GM [ii a,ii b,.l (l.map aD)]=some [ii a,ii b,.l (l.map aD)]:=by
 rw[akJ];simp(disch:=omega) only[↓pq,↓pj,ps,pz,↓reduceIte,af,ah,ai,aj,ak,ap,aq,au,av,MQ]
def dY(l:List Way)(to:Int):Int:=dz (λw=>w.to==to) l
theorem HU(l:List Way)(to:Int)(h:l.length<=1048576)(hl:∀w∈l,w.aF.length<=1048576):AC [.l (l.map br),ii to]=if dY l to<0 then some [ii 0,ii 0,.l [],bb false]else some (br (gt l (dY l to))++[bb true]):=by
 rw[am4];simp(disch:=omega) only[↓pq,↓pj,ps,pz,↓reduceIte,af,ah,ai,aj,ak,ap,aq,au,av,Hw,NV]
 refine Jc l (λi=>[bb false,ii i]) (λw=>w.to==to) (λi=>some (br (gt l i)++[bb true])) (mb:=some [ii 0,ii 0,.l [],bb false]) rfl (dh h) ?_ ?_
 ·intro i hi q
  have:=hl _ (gZ (n:=i) (by omega) hi)
  simp(disch:=omega) only[↓pq,↓pj,ps,pz,↓reduceIte,af,ah,ai,aj,ak,ap,aq,au,av,Hw,hi,Ry]
  rfl
 ·intro q
  simp(disch:=omega) only[↓pq,↓pj,ps,pz,↓reduceIte,af,ah,ai,aj,ak,ap,aq,au,av,Hw,]
theorem HV(l:List Way)(to:Int)(h:l.length<=1048576)(hl:∀w∈l,w.aF.length<=1048576):wZ [.l (l.map br),ii to]=if dY l to<0 then some [ii 0,ii 0,.l [],bb false]else some (br (gt l (dY l to))++[bb true]):=by
 rw[akL];simp(disch:=omega) only[↓pq,↓pj,ps,pz,↓reduceIte,af,ah,ai,aj,ak,ap,aq,au,av,Hl,MR]
 refine Jc l (λi=>[bb false,ii i]) (λw=>w.to==to) (λi=>some (br (gt l i)++[bb true])) (mb:=some [ii 0,ii 0,.l [],bb false]) rfl (dh h) ?_ ?_
 ·intro i hi q
  have:=hl _ (gZ (n:=i) (by omega) hi)
  simp(disch:=omega) only[↓pq,↓pj,ps,pz,↓reduceIte,af,ah,ai,aj,ak,ap,aq,au,av,Hl,hi,On]
  rfl
 ·intro q
  simp(disch:=omega) only[↓pq,↓pj,ps,pz,↓reduceIte,af,ah,ai,aj,ak,ap,aq,au,av,Hl,]
def fR(c:List Int)(n:Int):List Int:=c.filter (λx=>decide (x<n))++([n]++c.filter (λx=>decide (n<x)))
def dQ(c:List Int)(n:Int):Nat:=(c.filter (λx=>decide (x<n))).length
theorem DQ(c:List Int)(n:Int):dQ c n<=c.length:=List.length_filter_le _ _
theorem Oo{c:List Int}(h:c.Pairwise (· < ·))(n:Int):c.take (dQ c n)=c.filter (λx=>decide (x<n))∧c.drop (dQ c n)=c.filter (λx=>decide (n<=x))∧∀i,(hi:i<c.length)->(c[i]<n↔i<dQ c n):=by
 induction c with
 |nil=>simp[dQ]
 |cons x c ih=>
  have hs:=List.pairwise_cons.1 h
  obtain⟨i1,i2,i3⟩:=ih hs.2
  by_cases hx:x<n
  ·have e:dQ (x::c) n=dQ c n+1:=by simp[dQ,List.filter_cons,hx]
   have hx':¬n<=x:=by omega
   rw[e]
   refine⟨by rw[List.take_succ_cons,i1];simp[List.filter_cons,hx],by rw[List.drop_succ_cons,i2];simp[List.filter_cons,hx'],λi hi=>?_⟩
   cases i with
   |zero=>simp[hx]
   |succ i=>
    rw[List.getElem_cons_succ,i3 i (by simpa using hi)];omega
  ·have e1:(x::c).filter (λx=>decide (x<n))=[]:=by
    rw[List.filter_eq_nil_iff]
    intro y hy
    rcases List.mem_cons.1 hy with rfl|hy
    ·simp;omega
    ·have:=hs.1 y hy;simp;omega
   have e2:(x::c).filter (λx=>decide (n<=x))=x::c:=by
    rw[List.filter_eq_self]
    intro y hy
    rcases List.mem_cons.1 hy with rfl|hy
    ·simp;omega
    ·have:=hs.1 y hy;simp;omega
   have e:dQ (x::c) n=0:=by unfold dQ;rw[e1];rfl
   rw[e,e1,e2]
   refine⟨rfl,rfl,λi hi=>⟨λh3=>?_,λh3=>absurd h3 (by omega)⟩⟩
   cases i with
   |zero=>rw[List.getElem_cons_zero]at h3;omega
   |succ i=>
    rw[List.getElem_cons_succ]at h3
    have:=hs.1 _ (List.getElem_mem (by simpa using hi:i<c.length));omega
theorem iI{c:List Int}{n x:Int}:x∈fR c n↔x=n∨x∈c:=by
 unfold fR
 simp only[List.mem_append,List.mem_filter,List.mem_singleton,decide_eq_true_eq]
 constructor
 ·rintro(h|h|h)
  ·exact .inr h.1
  ·exact .inl h
  ·exact .inr h.1
 ·rintro(h|h)
  ·exact .inr (.inl h)
  ·rcases Int.lt_trichotomy x n with h'|h'|h'
   ·exact .inl ⟨h,h'⟩
   ·exact .inr (.inl h')
   ·exact .inr (.inr ⟨h,h'⟩)
theorem EU{c:List Int}(h:c.Pairwise (· < ·))(n:Int):(fR c n).Pairwise (· < ·):=by
 unfold fR
 rw[List.pairwise_append,List.pairwise_append]
 refine⟨h.filter _,⟨by simp,h.filter _,?_⟩,?_⟩
 ·intro a ha b hb
  rw[List.mem_singleton]at ha
  have:=(List.mem_filter.1 hb).2
  simp at this;omega
 ·intro a ha b hb
  have ha:=(List.mem_filter.1 ha).2
  simp only[decide_eq_true_eq]at ha
  rcases List.mem_append.1 hb with hb|hb
  ·rw[List.mem_singleton]at hb;omega
  ·have hb:=(List.mem_filter.1 hb).2
   simp only[decide_eq_true_eq]at hb;omega
theorem an1{c:List Int}(h:fo c){n:Int}(h1:1<=n)(h2:n<=6):fo (fR c n):=
 ⟨EU h.1 n,λx hx=>by rcases iI.1 hx with rfl|hx;exact⟨h1,h2⟩;exact h.2 x hx⟩
theorem HW{c:List Int}(h:c.Pairwise (· < ·)){n:Int}(hn:n∈c):fR c n=c:=
 HR (EU h n) h λx=>by rw[iI];exact⟨λh=>h.elim (λe=>e▸hn) id,.inr⟩
theorem Jt{c:List Int}(h:c.Pairwise (· < ·)){n:Int}(hn:n∉c):fR c n=c.take (dQ c n)++([n]++c.drop (dQ c n)):=by
 obtain⟨h1,h2,_⟩:=Oo h n
 rw[h1,h2]
 unfold fR
 congr 2
 refine List.filter_congr λx hx=>?_
 have:x≠n:=λe=>hn (e▸hx)
 have:(n<x)=(n<=x):=by simp only[eq_iff_iff];omega
 simp[this]
theorem HX{c:List Int}(h:c.Pairwise (· < ·)){n:Int}(hl:dQ c n<c.length):(gt c (dQ c n:Nat)=n↔n∈c):=by
 obtain⟨_,h2,h3⟩:=Oo h n
 rw[ed hl]
 constructor
 ·intro e;exact e▸List.getElem_mem hl
 ·intro hm
  obtain⟨j,hj,e⟩:=List.mem_iff_getElem.1 hm
  have h4:¬(j<dQ c n):=λhc=>by have:=(h3 j hj).2 hc;omega
  have h5:¬(c[dQ c n]<n):=λhc=>by have:=(h3 _ hl).1 hc;omega
  rcases Nat.lt_or_ge (dQ c n) j with h6|h6
  ·have:=List.pairwise_iff_getElem.1 h _ _ hl hj h6
   omega
  ·have:j=dQ c n:=by omega
   subst this;exact e
theorem HY{c:List Int}(h:c.Pairwise (· < ·)){n:Int}(hl:¬dQ c n<c.length):n∉c:=by
 obtain⟨_,_,h3⟩:=Oo h n
 intro hm
 obtain⟨j,hj,e⟩:=List.mem_iff_getElem.1 hm
 have h4:¬(j<dQ c n):=λhc=>by have:=(h3 j hj).2 hc;omega
 omega
def jI(a b:Way):Way:=if b.cost>a.cost then a else if a.cost>b.cost then b else⟨a.to,a.cost,AP a.aF b.aF⟩
theorem Xz{l c:List Int}(hl:∀x∈l,1<=x∧x<=6)(hc:fo c):fo (l.foldl fR c)∧∀x,x∈l.foldl fR c↔x∈c∨x∈l:=by
 induction l generalizing c with
 |nil=>exact⟨hc,by simp⟩
 |cons n l ih=>
  have hn:=hl n (.head _)
  obtain⟨h1,h2⟩:=ih (λx hx=>hl x (.tail _ hx)) (an1 hc hn.1 hn.2)
  refine⟨h1,λx=>?_⟩
  rw[List.foldl_cons,h2,iI,List.mem_cons]
  constructor
  ·rintro((h|h)|h)
   ·exact .inr (.inl h)
   ·exact .inl h
   ·exact .inr (.inr h)
  ·rintro(h|h|h)
   ·exact .inl (.inr h)
   ·exact .inl (.inl h)
   ·exact .inr h
def HZ(a b:Way):Way:=if b.cost>a.cost then a else if a.cost>b.cost then b else⟨a.to,a.cost,b.aF.foldl fR (a.aF.foldl fR [])⟩
theorem Oq(c:List Int)(n:Int):(fR c n).length<=c.length+1:=by
 have:∀c:List Int,(c.filter (λx=>decide (x<n))).length+(c.filter (λx=>decide (n<x))).length<=c.length:=by
  intro c
  induction c with
  |nil=>simp
  |cons x c ih=>by_cases h1:x<n<;>by_cases h2:n<x<;>simp[h1,h2]<;>omega
 have:=this c
 unfold fR
 simp only[List.length_append,List.length_singleton];omega
theorem an2(a b:Int)(l:List Int)(a' b':Int)(l':List Int)(hl:l.length<=50)(lu:l'.length<=50):sa [ii a,ii b,.l (l.map aD),ii a',ii b',.l (l'.map aD)]=some (br (HZ ⟨a,b,l⟩ ⟨a',b',l'⟩)):=by
 rw[am0];simp(disch:=omega) only[↓pq,↓pj,ps,pz,↓reduceIte,af,ah,ai,aj,ak,ap,aq,au,av,zm,zn,zo,zp,NT,Ry _ _ _ (show l.length<=1048576 by omega),Ry _ _ _ (show l'.length<=1048576 by omega)]
 unfold HZ
 by_cases h1:b'>b
 ·simp only[h1,if_true];rfl
 by_cases h2:b>b'
 ·simp only[h1,h2,if_true,if_false];rfl
 simp only[h1,h2,if_false]
 have one:∀(c:List Int) (n:Int) (j:Nat) (s:List T->Option (List T)),c.length<=200->(j:Int)<100->∀{F:aB->aB},(∀k:Nat,∀w,(k:Int)<dQ c n->F w [ii k]=w [ii (k+1)])->(∀w,F w [ii (dQ c n)]=s [ii (j+1),.l ((fR c n).map aD)])->iter F rounds [ii 0]=s [ii (j+1),.l ((fR c n).map aD)]:=by
  intro c n j s hc hj F h1 h2
  have:=DQ c n
  exact AO (λk=>[ii k]) (dQ c n) rfl (dh (by omega)) (λi hi w=>h1 i w hi) h2
 refine(g_ l (λi c=>[ii i,.l (c.map aD)]) fR (λc=>some (br ⟨a,b,l'.foldl fR c⟩)) [] (λi c=>c.Pairwise (· < ·)∧c.length<=i) rfl (dh (by omega)) ⟨.nil,by simp⟩ ?_ ?_).trans ?_
 ·intro i c hi hc
  have uX:=hc.2
  refine⟨⟨EU hc.1 _,by have:=Oq c (gt l i);omega⟩,λs=>?_⟩
  have hle:=DQ c (gt l i)
  obtain⟨c1,c2,c3⟩:=Oo hc.1 (gt l i)
  simp(disch:=omega) only[↓pq,↓pj,ps,pz,↓reduceIte,af,ah,ai,aj,ak,ap,aq,au,av,zm,zn,zo,zp,hi]
  refine one c (gt l i) i s (by omega) (by omega) ?_ ?_
  ·intro k w hk
   have eU:(k:Int)<c.length:=by omega
   have cO:gt c (k:Int)<gt l i:=by rw[ed (by omega)];exact(c3 k (by omega)).2 (by omega)
   simp(disch:=omega) only[↓pq,↓pj,ps,pz,↓reduceIte,af,ah,ai,aj,ak,ap,aq,au,av,zm,zn,zo,zp,eU,cO]
  ·intro w
   by_cases bE:dQ c (gt l i)<c.length
   ·have eU:((dQ c (gt l i):Nat):Int)<c.length:=by omega
    have cO:¬(gt c ((dQ c (gt l i):Nat):Int)<gt l i):=by rw[ed bE];intro tw;have:=(c3 _ bE).1 tw;omega
    have iC:=HX hc.1 bE
    by_cases jH:gt l i∈c
    ·rw[HW hc.1 jH]
     have qO:=iC.2 jH
     simp(disch:=omega) only[↓pq,↓pj,ps,pz,↓reduceIte,af,ah,ai,aj,ak,ap,aq,au,av,zm,zn,zo,zp,eU,cO,qO]
    ·rw[Jt hc.1 jH]
     have qO:¬(gt c ((dQ c (gt l i):Nat):Int)=gt l i):=λe=>jH (iC.1 e)
     simp(disch:=omega) only[↓pq,↓pj,ps,pz,↓reduceIte,af,ah,ai,aj,ak,ap,aq,au,av,zm,zn,zo,zp,eU,cO,qO,rC _ (show(c.take (dQ c (gt l i))).length<=1048576 by simp;omega)]
     rw[Ar (by simp;omega),fU,xW (by simp;omega),fU,List.append_assoc]
   ·have eU:¬(((dQ c (gt l i):Nat):Int)<c.length):=by omega
    rw[Jt hc.1 (HY hc.1 bE)]
    simp(disch:=omega) only[↓pq,↓pj,ps,pz,↓reduceIte,af,ah,ai,aj,ak,ap,aq,au,av,zm,zn,zo,zp,eU,rC _ (show(c.take (dQ c (gt l i))).length<=1048576 by simp;omega)]
    rw[Ar (by simp;omega),fU,xW (by simp;omega),fU,List.append_assoc]
 ·intro c w hc
  simp(disch:=omega) only[↓pq,↓pj,ps,pz,↓reduceIte,af,ah,ai,aj,ak,ap,aq,au,av,zm,zn,zo,zp,]
  refine g_ l' (λi c=>[ii i,.l (c.map aD)]) fR (λc=>some (br ⟨a,b,c⟩)) c (λi c=>c.Pairwise (· < ·)∧c.length<=l.length+i) rfl (dh (by omega)) hc ?_ ?_
  ·intro i c hi hc
   have uX:=hc.2
   refine⟨⟨EU hc.1 _,by have:=Oq c (gt l' i);omega⟩,λs=>?_⟩
   have hle:=DQ c (gt l' i)
   obtain⟨c1,c2,c3⟩:=Oo hc.1 (gt l' i)
   simp(disch:=omega) only[↓pq,↓pj,ps,pz,↓reduceIte,af,ah,ai,aj,ak,ap,aq,au,av,zm,zn,zo,zp,hi]
   refine one c (gt l' i) i s (by omega) (by omega) ?_ ?_
   ·intro k w hk
    have eU:(k:Int)<c.length:=by omega
    have cO:gt c (k:Int)<gt l' i:=by rw[ed (by omega)];exact(c3 k (by omega)).2 (by omega)
    simp(disch:=omega) only[↓pq,↓pj,ps,pz,↓reduceIte,af,ah,ai,aj,ak,ap,aq,au,av,zm,zn,zo,zp,eU,cO]
   ·intro w
    by_cases bE:dQ c (gt l' i)<c.length
    ·have eU:((dQ c (gt l' i):Nat):Int)<c.length:=by omega
     have cO:¬(gt c ((dQ c (gt l' i):Nat):Int)<gt l' i):=by rw[ed bE];intro tw;have:=(c3 _ bE).1 tw;omega
     have iC:=HX hc.1 bE
     by_cases jH:gt l' i∈c
     ·rw[HW hc.1 jH]
      have qO:=iC.2 jH
      simp(disch:=omega) only[↓pq,↓pj,ps,pz,↓reduceIte,af,ah,ai,aj,ak,ap,aq,au,av,zm,zn,zo,zp,eU,cO,qO]
     ·rw[Jt hc.1 jH]
      have qO:¬(gt c ((dQ c (gt l' i):Nat):Int)=gt l' i):=λe=>jH (iC.1 e)
      simp(disch:=omega) only[↓pq,↓pj,ps,pz,↓reduceIte,af,ah,ai,aj,ak,ap,aq,au,av,zm,zn,zo,zp,eU,cO,qO,rC _ (show(c.take (dQ c (gt l' i))).length<=1048576 by simp;omega)]
      rw[Ar (by simp;omega),fU,xW (by simp;omega),fU,List.append_assoc]
    ·have eU:¬(((dQ c (gt l' i):Nat):Int)<c.length):=by omega
     rw[Jt hc.1 (HY hc.1 bE)]
     simp(disch:=omega) only[↓pq,↓pj,ps,pz,↓reduceIte,af,ah,ai,aj,ak,ap,aq,au,av,zm,zn,zo,zp,eU,rC _ (show(c.take (dQ c (gt l' i))).length<=1048576 by simp;omega)]
     rw[Ar (by simp;omega),fU,xW (by simp;omega),fU,List.append_assoc]
  ·intro c w hc
   simp(disch:=omega) only[↓pq,↓pj,ps,pz,↓reduceIte,af,ah,ai,aj,ak,ap,aq,au,av,zm,zn,zo,zp,]
   rfl
 ·rfl
theorem an3{a b:Way}(h:fo a.aF)(h':fo b.aF):HZ a b=jI a b:=by
 unfold HZ jI
 obtain⟨q1,q2⟩:=Xz h.2 DP
 obtain⟨q3,q4⟩:=Xz h'.2 q1
 congr 3
 refine HR q3.1 (HS _ _).1 λx=>?_
 rw[q4,q2,HT]
 constructor
 ·rintro((hx|hx)|hx)
  ·cases hx
  ·exact⟨h.2 x hx,.inl hx⟩
  ·exact⟨h'.2 x hx,.inr hx⟩
 ·rintro⟨_,hx|hx⟩
  ·exact .inl (.inr hx)
  ·exact .inr hx
theorem H0(a b:Int)(l:List Int)(a' b':Int)(l':List Int)(h:fo l)(h':fo l'):sa [ii a,ii b,.l (l.map aD),ii a',ii b',.l (l'.map aD)]=some (br (jI ⟨a,b,l⟩ ⟨a',b',l'⟩)):=by
 rw[<-an3 h h']
 exact an2 a b l a' b' l' (by have:=sf h;omega) (by have:=sf h';omega)
theorem XA{α:Type} [Inhabited α]{enc:α->List T}{l:List α}{i off:Nat}{vs:List T}{x:α}(h:i<l.length)(hx:(enc (gt l i)).take off++vs++(enc (gt l i)).drop (off+vs.length)=enc x):setRow (l.map enc) i off vs=(l.set i x).map enc:=by
 unfold setRow
 refine List.ext_getElem (by simp) λj h1 h2=>?_
 simp only[List.getElem_modify,List.getElem_map,List.getElem_set]
 by_cases hj:i=j
 ·subst hj
  rw[if_pos rfl,if_pos rfl,<-hx,ed h]
 ·rw[if_neg hj,if_neg hj]
theorem B5{α:Type} [Inhabited α]{enc:α->List T}{sc:Bool}{w off m:Nat}{l:List α}{n:Int}{vs:List T}{x:α}(h:0<=n)(h':n<l.length)(hw:∀y,(enc y).length=w)(ho:off+m<=w)(hv:vs.length=m)(hs:(!sc||vs.all dX)=true)
  (hx:(enc (gt l n)).take off++vs++(enc (gt l n)).drop (off+vs.length)=enc x):Prim.ev (.put sc w off m) (.l (l.map enc)::ii n::vs)=some (.l ((l.set n.toNat x).map enc)):=by
 have hn:n.toNat<l.length:=by omega
 have e:n=((n.toNat:Nat):Int):=by omega
 have hg:=db (enc:=enc) h h'
 rw[e]
 rw[UW hg (hw _) ho hv hs,Int.toNat_natCast,XA hn (by rw[<-e];exact hx)]
theorem DR{l:List Int}{n x:Int}(h:0<=n)(h':n<l.length):Prim.ev (.put true 1 0 1) [.l (l.map aD),ii n,ii x]=some (.l ((l.set n.toNat x).map aD)):=
 B5 (enc:=aD) (x:=x) h h' (λ_=>rfl) (by decide) rfl rfl rfl
theorem Ot{l:List Bool}{n:Int}{x:Bool}(h:0<=n)(h':n<l.length):Prim.ev (.put true 1 0 1) [.l (l.map iF),ii n,bb x]=some (.l ((l.set n.toNat x).map iF)):=
 B5 (enc:=iF) (x:=x) h h' (λ_=>rfl) (by decide) rfl rfl rfl
theorem an4{l:List Way}{n x:Int}(h:0<=n)(h':n<l.length):Prim.ev (.put true 3 0 1) [.l (l.map br),ii n,ii x]=some (.l ((l.set n.toNat ⟨x,(gt l n).cost,(gt l n).aF⟩).map br)):=
 B5 (enc:=br) (x:=⟨x,(gt l n).cost,(gt l n).aF⟩) h h' (λ_=>rfl) (by decide) rfl rfl rfl
theorem AQ{l:List Way}{n a b:Int}{c:List Int}(h:0<=n)(h':n<l.length):Prim.ev (.put false 3 0 3) [.l (l.map br),ii n,ii a,ii b,.l (c.map aD)]=some (.l ((l.set n.toNat ⟨a,b,c⟩).map br)):=
 B5 (enc:=br) (x:=⟨a,b,c⟩) h h' (λ_=>rfl) (by decide) rfl rfl rfl
theorem an5{α:Type} [Inhabited α]{enc:α->List T}{ms:List Bool}{w off:Nat}{l:List α}{n:Int}{vs:List T}{x:α}(h:0<=n)(h':n<l.length)(hw:∀y,(enc y).length=w)(ho:off+vs.length<=w)(hs:sM ms vs=true)
  (hx:(enc (gt l n)).take off++vs++(enc (gt l n)).drop (off+vs.length)=enc x):Prim.ev (.fv ms w off) (.l (l.map enc)::ii n::vs)=some (.l ((l.set n.toNat x).map enc)):=by
 have hn:n.toNat<l.length:=by omega
 have hr:wK (.l (l.map enc)) (ii n)=some (enc (gt l n)):=Dv h (db (enc:=enc) h h')
 simp only[Prim.ev,hr,Option.bind_some,hw,if_true,if_pos ho,hs,T.rows,T.int]
 rw[XA hn (by rw[show((n.toNat:Nat):Int)=n by omega];exact hx)]
theorem H2{l:List Way}{n a b:Int}{c:List Int}(h:0<=n)(h':n<l.length):Prim.ev (.fv [true,true,false] 3 0) [.l (l.map br),ii n,ii a,ii b,.l (c.map aD)]=some (.l ((l.set n.toNat ⟨a,b,c⟩).map br)):=
 an5 (enc:=br) (x:=⟨a,b,c⟩) h h' (λ_=>rfl) (by simp) rfl rfl
def gA{α:Type}(enc:α->List T)(l:List α)(i:Nat):List (List T):=List.replicate i []++(l.drop i).map enc
theorem an6{α:Type}{enc:α->List T}{l:List α}{i:Nat}(he:∀x,(enc x).isEmpty=false)(h:i<l.length):Prim.ev .yI [.l (gA enc l i),ii (i:Int)]=some (.l (gA enc l (i+1))):=by
 have hd:l.drop i=l[i]::l.drop (i+1):=List.drop_eq_getElem_cons h
 have hl:(gA enc l i).length=l.length:=by simp[gA];omega
 have hr:(gA enc l i).drop i=enc l[i]::(l.drop (i+1)).map enc:=by rw[gA,hd,List.drop_left' (by simp)];rfl
 have ht:(gA enc l i).take i=List.replicate i []:=by simp[gA]
 have sC:(gA enc l i).drop (i+1)=(l.drop (i+1)).map enc:=by rw[<-List.drop_drop,hr];rfl
 have hf:tL (gA enc l i) i 1=true:=by simp[tL,hr,he]
 have hg:Bl (gA enc l i) i 1=gA enc l (i+1):=by rw[Bl,ht,sC,gA,<-List.replicate_append_replicate]
 simp only[Prim.ev,Int.toNat_natCast,hl,hf,hg,if_true]
 rw[if_pos (by omega),if_pos (by omega)]
theorem XB{α:Type}{enc:α->List T}{l:List α}{i m:Nat}{ys:List (List T)}(he:∀x,(enc x).isEmpty=false)(hm:ys.length=m)(h:i+m<=l.length):Prim.ev .gy [.l (gA enc l i),ii (i:Int),.l ys]=some (.l (gA enc l (i+m))):=by
 have hl:(gA enc l i).length=l.length:=by simp[gA];omega
 have hr:(gA enc l i).drop i=(l.drop i).map enc:=by simp[gA]
 have ht:(gA enc l i).take i=List.replicate i []:=by simp[gA]
 have sC:(gA enc l i).drop (i+m)=(l.drop (i+m)).map enc:=by rw[<-List.drop_drop,hr,<-List.map_drop,List.drop_drop]
 have hf:tL (gA enc l i) i m=true:=by
  simp only[tL,hr,List.all_eq_true]
  intro r hr
  obtain⟨x,_,rfl⟩:=List.mem_map.1 (List.mem_of_mem_take hr)
  simp[he]
 have hg:Bl (gA enc l i) i m=gA enc l (i+m):=by rw[Bl,ht,sC,gA,<-List.replicate_append_replicate]
 simp only[Prim.ev,Int.toNat_natCast,hl,hm,hf,hg,if_true]
 rw[if_pos (by omega),if_pos (by omega)]
theorem Ou{α:Type}{enc:α->List T}{l:List α}{k:Nat}(he:∀x,(enc x).isEmpty=false)(h:k<=l.length):Prim.ev .gy [.l (l.map enc),ii 0,.l ((l.take k).map enc)]=some (.l (gA enc l k)):=by
 have:=XB (enc:=enc) (l:=l) (i:=0) (m:=k) (ys:=(l.take k).map enc) he (by simp;omega) (by omega)
 rw[Nat.zero_add]at this
 exact this
theorem Ov{α:Type}{enc:α->List T}{l:List α}{k:Nat}(he:∀x,(enc x).isEmpty=false)(h:k<=l.length):Prim.ev .gy [.l (gA enc l k),ii (k:Int),.l ((l.drop k).map enc)]=some (.l (gA enc l l.length)):=by
 have:=XB (enc:=enc) (l:=l) (i:=k) (m:=l.length-k) (ys:=(l.drop k).map enc) he (by simp) (by omega)
 rw[show k+(l.length-k)=l.length by omega]at this
 exact this
def zv(l:List Int):List T:=[.l (l.map aD)]
theorem H3{l:List (List Int)}{n:Int}(h:0<=n)(h':n<l.length):Prim.ev (.cell 1 0) [.l (l.map zv),ii n]=some (.l ((gt l n).map aD)):=gS h (db h h') rfl rfl
theorem Ju{l:List (List Int)}{n:Int}{c:List Int}(h:0<=n)(h':n<l.length):Prim.ev (.put false 1 0 1) [.l (l.map zv),ii n,.l (c.map aD)]=some (.l ((l.set n.toNat c).map zv)):=
 B5 (enc:=zv) (x:=c) h h' (λ_=>rfl) (by decide) rfl rfl rfl
theorem yl{α:Type}{enc:α->List T}{n:Nat}{x:α}{vs:List T}(h:n<4294967296)(hx:vs=enc x):Prim.ev .mk (ii (n:Int)::ii (n:Int)::vs)=some (.l ((List.replicate n x).map enc)):=by
 rw[adO (by unfold wJ;exact h),hx,List.map_replicate]
theorem AR{α:Type} [Inhabited α]{l:List α}{i j:Int}{x:α}(h:0<=i)(h':i<l.length)(hj:0<=j):gt (l.set i.toNat x) j=if i=j then x else gt l j:=by
 unfold gt
 simp only[List.getD_eq_getElem?_getD,List.getElem?_set]
 by_cases e:i=j
 ·subst e
  simp[show i.toNat<l.length by omega]
 ·have:¬(i.toNat=j.toNat):=by omega
  simp[e,this]
theorem Ow{α:Type} [Inhabited α]{n:Nat}{x:α}{j:Int}(h:0<=j)(h':j<n):gt (List.replicate n x) j=x:=by
 unfold gt
 simp only[List.getD_eq_getElem?_getD]
 rw[List.getElem?_replicate,if_pos (by omega)]
 rfl
def iz(s:List ay)(ar v:Int):Int:=dz (λx=>dZ x ⟨ar,1,v,0,0,[],0,false⟩) s
def qv(s:List ay)(ar v:Int):List cw:=if iz s ar v<0 then []else(gt s (iz s ar v)).bf
def ym(l:List cw)(b:Int):Int:=if dz (λ(x:cw)=>x.to==b) l<0 then 0 else(gt l (dz (λ(x:cw)=>x.to==b) l)).cost
def sK(s:List ay)(ar a b:Int):Int:=ym (qv s ar a) b
def du(s:List ay)(ar a b:Int):Int:=if sK s ar b a=0 then 0 else sK s ar a b
theorem Jv(s:List ay)(ar v:Int):iz s ar v<s.length:=rz _ _
theorem XC{s:List ay}(hn:bh s)(ar v:Int):(qv s ar v).length<=1048576:=by
 unfold qv
 split
 ·simp
 ·exact hn.gt (by omega) (Jv s ar v)
theorem an7(s:List ay)(ar a b:Int)(h:s.length<=1048576)(hn:bh s):AB [.l (s.map aC),ii ar,ii a,ii b]=some [ii (sK s ar a b)]:=by
 have h2:=Jv s ar a
 rw[amU];simp(disch:=omega) only[↓pq,↓pj,ps,pz,↓reduceIte,af,ah,ai,aj,ak,ap,aq,au,av,Xa,NQ,Oi]
 rw[<-iz]
 unfold sK qv
 by_cases hk:iz s ar a<0
 ·simp only[hk,if_true];rfl
 ·have h3:0<=iz s ar a:=by omega
  have hl:=hn.gt h3 h2
  simp only[hk,if_false]
  simp(disch:=omega) only[↓pq,↓pj,ps,pz,↓reduceIte,af,ah,ai,aj,ak,ap,aq,au,av,Xa,]
  refine(Jc (gt s (iz s ar a)).bf (λi=>[ii 0,ii i]) (λx=>x.to==b) (λi=>some [ii (gt (gt s (iz s ar a)).bf i).cost]) (mb:=some [ii 0]) rfl (dh hl) ?_ ?_).trans ?_
  ·intro i hi q
   simp(disch:=omega) only[↓pq,↓pj,ps,pz,↓reduceIte,af,ah,ai,aj,ak,ap,aq,au,av,Xa,hi]
  ·intro q
   simp(disch:=omega) only[↓pq,↓pj,ps,pz,↓reduceIte,af,ah,ai,aj,ak,ap,aq,au,av,Xa,]
  ·unfold ym
   split<;>rfl
theorem EV(s:List ay)(ar a b:Int)(h:s.length<=1048576)(hn:bh s):Rh [.l (s.map aC),ii ar,ii a,ii b]=some [ii (du s ar a b)]:=by
 rw[amW];simp(disch:=omega) only[↓pq,↓pj,ps,pz,↓reduceIte,af,ah,ai,aj,ak,ap,aq,au,av,NR,an7 _ _ _ _ h hn]
 unfold du
 split<;>rfl
theorem an8(s:List ay)(ar a:Int)(h:s.length<=1048576):Aw [.l (s.map aC),ii ar,ii a]=if iz s ar a<0 then some [ii 0,ii 0,ii 0,ii 0,ii 0,.l [],ii 0,bb false,bb false]else some (aC (gt s (iz s ar a))++[bb true]):=by
 have h2:=Jv s ar a
 rw[akx];simp(disch:=omega) only[↓pq,↓pj,ps,pz,↓reduceIte,af,ah,ai,aj,ak,ap,aq,au,av,MK,DN]
 rw[<-iz]
 by_cases hk:iz s ar a<0
 ·simp only[hk,if_true]
 ·have h3:0<=iz s ar a:=by omega
  simp only[hk,if_false]
  simp(disch:=omega) only[↓pq,↓pj,ps,pz,↓reduceIte,af,ah,ai,aj,ak,ap,aq,au,av,]
  rfl
theorem Ox(s:List ay)(ar a:Int)(h:s.length<=1048576):∃c0 c1 c2 c3 c4 c6 c7:T,Aw [.l (s.map aC),ii ar,ii a]=some [c0,c1,c2,c3,c4,.l ((qv s ar a).map eQ),c6,c7,bb (decide (0<=iz s ar a))]:=by
 rw[an8 _ _ _ h]
 unfold qv
 by_cases hk:iz s ar a<0
 ·rw[if_pos hk,if_pos hk,show decide (0<=iz s ar a)=false by simp;omega];exact⟨_,_,_,_,_,_,_,rfl⟩
 ·rw[if_neg hk,if_neg hk,show decide (0<=iz s ar a)=true by simp;omega];exact⟨_,_,_,_,_,_,_,rfl⟩
theorem an9(s:List ay)(ar a b:Int)(h:s.length<=1048576)(hn:bh s):QI [.l (s.map aC),ii ar,ii a,ii b]=some [ii (sK s ar a b)]:=by
 obtain⟨c0,c1,c2,c3,c4,c6,c7,e⟩:=Ox s ar a h
 have hl:=XC hn ar a
 rw[akz];simp(disch:=omega) only[↓pq,↓pj,ps,pz,↓reduceIte,af,ah,ai,aj,ak,ap,aq,au,av,jx_,ML,e]
 refine(Jc (qv s ar a) (λi=>[ii 0,ii i]) (λx=>x.to==b) (λi=>some [ii (gt (qv s ar a) i).cost]) (mb:=some [ii 0]) rfl (dh hl) ?_ ?_).trans ?_
 ·intro i hi q
  simp(disch:=omega) only[↓pq,↓pj,ps,pz,↓reduceIte,af,ah,ai,aj,ak,ap,aq,au,av,jx_,hi]
 ·intro q
  simp(disch:=omega) only[↓pq,↓pj,ps,pz,↓reduceIte,af,ah,ai,aj,ak,ap,aq,au,av,jx_,]
 ·unfold sK ym
  split<;>rfl
theorem B6{s:List ay}(h:eA s=true){r:ay}(hr:r∈s):fu r=true:=by
 simp only[eA,bI]at h
 obtain⟨i,hi,rfl⟩:=List.mem_iff_getElem.1 hr
 have:=ca.1 h.2 i hi
 simp only[bI]at this
 rw[<-ed hi]
 exact this.1
theorem DS{o:Int}{l:List cw}(h:wm o l=true){x:cw}(hx:x∈l):(1<=x.to∧x.to<=6)∧x.to≠o∧(1<=x.cost∧x.cost<=1000):=by
 obtain⟨i,hi,rfl⟩:=List.mem_iff_getElem.1 hx
 have:=ca.1 h i hi
 simp only[bI,aZ,Bool.not_eq_true',decide_eq_false_iff_not]at this
 rw[<-ed hi]
 exact⟨this.1.1.1,this.1.1.2,this.1.2⟩
theorem XD{o:Int}{l:List cw}(h:wm o l=true):l.Pairwise λa b=>a.to<b.to:=by
 have h:=ca.1 h
 rw[List.pairwise_iff_getElem]
 have step:∀i,(hi:i+1<l.length)->l[i].to<l[i+1].to:=by
  intro i hi
  have:=h (i+1) hi
  simp only[bI,Bool.or_eq_true,Bool.not_eq_true',decide_eq_false_iff_not,decide_eq_true_eq]at this
  have h2:=this.2.resolve_left (by omega)
  rwa[show(((i+1:Nat):Int)-1)=(i:Int) by omega,ed (by omega),ed hi]at h2
 intro i j hi hj qu
 obtain⟨d,rfl⟩:∃d,j=i+1+d:=⟨j-i-1,by omega⟩
 clear qu
 induction d with
 |zero=>exact step i (by omega)
 |succ d ih=>exact Int.lt_trans (ih (by omega)) (step (i+1+d) (by omega))
theorem H4{s:List ay}(h:eA s=true)(ar v:Int):wm v (qv s ar v)=true:=by
 unfold qv
 by_cases hk:iz s ar v<0
 ·rw[if_pos hk];simp[wm,o7]
 ·rw[if_neg hk]
  have hm:=gZ (l:=s) (n:=iz s ar v) (by omega) (Jv s ar v)
  have hr:=B6 h hm
  have hs:=tE (λx=>dZ x ⟨ar,1,v,0,0,[],0,false⟩) s (by unfold iz at hk;omega)
  rw[<-iz]at hs
  rw[sameKey_iff]at hs
  obtain⟨_,h2,h3,_⟩:=hs
  simp only at h2 h3
  unfold fu at hr
  rw[h2]at hr
  simp only[if_true,bI]at hr
  have hq:=hr.2.1.1.2
  rw[h3]at hq
  exact hq
theorem XE{l:List cw}{b:Int}(h:∀x∈l,x.to≠b):ym l b=0:=by
 unfold ym
 rw[if_pos]
 rw[EN]
 intro x hx
 simp[h x hx]
theorem an_{l:List cw}{b:Int}(h:ym l b≠0):∃x∈l,x.to=b∧x.cost=ym l b:=by
 unfold ym at h⊢
 split at h
 ·exact absurd rfl h
 ·rename_i hf
  rw[if_neg hf]
  have hs:=tE (λ(y:cw)=>y.to==b) l (by omega)
  simp only[beq_iff_eq]at hs
  exact⟨_,gZ (by omega) (rz _ _),hs,rfl⟩
theorem XF{s:List ay}(h:eA s=true)(ar a b:Int):0<=sK s ar a b∧sK s ar a b<=1000:=by
 unfold sK
 by_cases h0:ym (qv s ar a) b=0
 ·rw[h0];omega
 ·obtain⟨x,hx,_,h2⟩:=an_ h0
  have:=DS (H4 h ar a) hx
  omega
theorem DT{s:List ay}(h:eA s=true)(ar a b:Int):0<=du s ar a b∧du s ar a b<=1000:=by
 unfold du
 split
 ·omega
 ·exact XF h ar a b
def H5(s:List ay)(ar a:Int)(M:List Int)(x:cw):List Int:=if jO x.to 1 6=true∧sK s ar x.to a>0 then M.set (a*7+x.to).toNat x.cost else M
def AU(s:List ay)(ar:Int)(M:List Int)(i:Nat):List Int:=(qv s ar (i+1)).foldl (H5 s ar (i+1)) M
def DU(s:List ay)(ar:Int):List Int:=(List.range 6).foldl (AU s ar) (List.replicate 49 0)
theorem Oy(s:List ay)(ar a:Int)(M:List Int)(x:cw):(H5 s ar a M x).length=M.length:=by
 unfold H5;split<;>simp
theorem Oz{α β:Type}{g:List α->β->List α}(h:∀M x,(g M x).length=M.length)(l:List β)(M:List α):(l.foldl g M).length=M.length:=by
 induction l generalizing M with
 |nil=>rfl
 |cons x l ih=>rw[List.foldl_cons,ih,h]
theorem OA(s:List ay)(ar:Int)(M:List Int)(i:Nat):(AU s ar M i).length=M.length:=Oz (Oy s ar _) _ _
theorem an'(s:List ay)(ar:Int):(DU s ar).length=49:=by
 unfold DU
 rw[Oz (λM i=>OA s ar M i)]
 simp
theorem aoa{s:List ay}(hs:eA s=true)(ar:Int){a:Int}(ha:1<=a∧a<=6){u v:Int}(hu:1<=u∧u<=6)(hv:1<=v∧v<=6){o:Int}:∀(l:List cw) (M:List Int),wm o l=true∨(l.Pairwise (λa b=>a.to<b.to)∧∀x∈l,1<=x.to∧x.to<=6)->M.length=49->
  gt (l.foldl (H5 s ar a) M) (u*7+v)=if u=a∧sK s ar v a>0∧∃x∈l,x.to=v then ym l v else gt M (u*7+v):=by
 intro l M hl hM
 replace hl:l.Pairwise (λa b=>a.to<b.to)∧∀x∈l,1<=x.to∧x.to<=6:=by
  rcases hl with hl|hl
  ·exact⟨XD hl,λx hx=>(DS hl hx).1⟩
  ·exact hl
 induction l generalizing M with
 |nil=>simp
 |cons y l ih=>
  have hp:=List.pairwise_cons.1 hl.1
  have hy:=hl.2 y (.head _)
  have hlen:=Oy s ar a M y
  rw[List.foldl_cons,ih (H5 s ar a M y) (by rw[hlen];exact hM) ⟨hp.2,λx hx=>hl.2 x (.tail _ hx)⟩]
  have sQ:gt (H5 s ar a M y) (u*7+v)=if u=a∧v=y.to∧sK s ar y.to a>0 then y.cost else gt M (u*7+v):=by
   unfold H5
   by_cases hc:jO y.to 1 6=true∧sK s ar y.to a>0
   ·rw[if_pos hc,AR (by omega) (by omega) (by omega)]
    refine As ⟨λh=>⟨by omega,by omega,hc.2⟩,λh=>by omega⟩ _ _
   ·rw[if_neg hc,if_neg (λh=>hc ⟨aZ.2 hy,h.2.2⟩)]
  rw[sQ]
  by_cases jH:∃x∈l,x.to=v
  ·obtain⟨x,hx,e⟩:=jH
   have dI:¬(v=y.to):=by have:=hp.1 x hx;omega
   have DV:ym (y::l) v=ym l v:=by
    unfold ym dz
    rw[List.findIdx?_cons]
    have:(y.to==v)=false:=by simp;omega
    rw[this]
    simp only[cI,if_false]
    cases hf:l.findIdx? (λ(z:cw)=>z.to==v)with
    |none=>rfl
    |some k=>
     show(if((k+1:Nat):Int)<0 then 0 else(gt (y::l) ((k+1:Nat):Int)).cost)=if(k:Int)<0 then 0 else(gt l (k:Int)).cost
     rw[if_neg (by omega),if_neg (by omega)]
     rfl
   by_cases zU:u=a∧sK s ar v a>0
   ·rw[if_pos ⟨zU.1,zU.2,x,hx,e⟩,if_pos ⟨zU.1,zU.2,x,.tail _ hx,e⟩,DV]
   ·rw[if_neg (λh=>zU ⟨h.1,h.2.1⟩),if_neg (λh=>dI h.2.1),if_neg (λh=>zU ⟨h.1,h.2.1⟩)]
  ·rw[if_neg (λh=>jH h.2.2)]
   by_cases hc:u=a∧v=y.to∧sK s ar y.to a>0
   ·rw[if_pos hc,if_pos ⟨hc.1,by rw[hc.2.1];exact hc.2.2,y,.head _,hc.2.1.symm⟩]
    unfold ym dz
    rw[List.findIdx?_cons]
    have:(y.to==v)=true:=by simp;omega
    rw[this]
    rfl
   ·rw[if_neg hc,if_neg]
    rintro⟨h1,h2,x,hx,e⟩
    rcases List.mem_cons.1 hx with rfl|hx
    ·exact hc ⟨h1,e.symm,by rw[e];exact h2⟩
    ·exact jH ⟨x,hx,e⟩
theorem aob{s:List ay}(hs:eA s=true)(ar:Int){i:Nat}(hi:i<6){M:List Int}(hM:M.length=49){u v:Int}(hu:1<=u∧u<=6)(hv:1<=v∧v<=6)(h0:u=(i:Int)+1->gt M (u*7+v)=0):
  gt (AU s ar M i) (u*7+v)=if u=(i:Int)+1 then du s ar u v else gt M (u*7+v):=by
 unfold AU
 rw[aoa (o:=(i:Int)+1) hs ar (by omega) hu hv _ _ (.inl (H4 hs ar ((i:Int)+1))) hM]
 by_cases hc:u=(i:Int)+1
 ·rw[if_pos hc,h0 hc]
  unfold du
  have hb:=XF hs ar v u
  by_cases h1:sK s ar v u=0
  ·rw[if_pos h1,if_neg]
   rintro⟨_,h2,_⟩
   rw[<-hc]at h2;omega
  ·rw[if_neg h1]
   by_cases h2:∃x∈qv s ar ((i:Int)+1),x.to=v
   ·rw[if_pos ⟨hc,by rw[<-hc];omega,h2⟩,<-hc];rfl
   ·rw[if_neg (λh=>h2 h.2.2)]
    unfold sK
    rw[XE]
    intro x hx e
    exact h2 ⟨x,hc▸hx,e⟩
 ·rw[if_neg (λh=>hc h.1),if_neg hc]
theorem aoc{s:List ay}(hs:eA s=true)(ar:Int){u v:Int}(hu:1<=u∧u<=6)(hv:1<=v∧v<=6):gt (DU s ar) (u*7+v)=du s ar u v:=by
 have key:=LR (l:=List.range 6) (g:=AU s ar) (c:=List.replicate 49 0) (Inv:=λi M=>M.length=49∧∀u v:Int,(1<=u∧u<=6)->(1<=v∧v<=6)->gt M (u*7+v)=if u<(i:Int)+1 then du s ar u v else 0)
  ⟨by simp,λu v hu hv=>by rw[Ow (by omega) (by omega),if_neg (by omega)]⟩ (λi M hi ⟨h1,h2⟩=>by
   have hl:(List.range 6).length=6:=List.length_range
   rw[hl]at hi
   rw[ed (by rw[hl];omega),List.getElem_range]
   refine⟨by rw[OA];exact h1,λu v hu hv=>?_⟩
   rw[aob hs ar (by omega) h1 hu hv (λe=>by rw[h2 u v hu hv,if_neg (by omega)]),h2 u v hu hv]
   by_cases hc:u=(i:Int)+1
   ·rw[if_pos hc,if_pos (by omega)]
   ·rw[if_neg hc]
    exact As ⟨λh=>by omega,λh=>by omega⟩ _ _)
 have:=key.2 u v hu hv
 rw[List.length_range,if_pos (by omega)]at this
 exact this
theorem aod(s:List ay)(ar:Int)(h:s.length<=1048576)(hn:bh s)(hs:eA s=true):QJ [.l (s.map aC),ii ar]=some [.l ((DU s ar).map aD)]:=by
 have e0:=yl (enc:=aD) (n:=49) (x:=0) (vs:=[ii 0]) (by decide) rfl
 rw[akB];simp only[MM,Vl]
 rw[show Prim.ev .mk [ii 49,ii 49,ii 0]=some (.l ((List.replicate 49 (0:Int)).map aD)) from e0,fU]
 refine rZ 6 (λi M=>[ii (i+1),.l (M.map aD)]) (AU s ar) (λM=>some [T.l (M.map aD)]) (List.replicate 49 0) (λ_ M=>M.length=49) rfl (dh (by omega)) (by simp) ?_ ?_
 ·intro i M hi hM
  refine⟨by rw[OA];exact hM,λq=>?_⟩
  have aO:(i:Int)+1<=6:=by omega
  obtain⟨c0,c1,c2,c3,c4,c6,c7,e⟩:=Ox s ar ((i:Int)+1) h
  have hl:=XC hn ar ((i:Int)+1)
  simp(disch:=omega) only[↓pq,↓pj,ps,pz,↓reduceIte,af,ah,ai,aj,ak,ap,aq,au,av,WS,WU,aO,e]
  refine g_ (qv s ar ((i:Int)+1)) (λj M=>[ii j,.l (M.map aD)]) (H5 s ar ((i:Int)+1)) (λM=>q [ii ((i+1:Nat)+1),.l (M.map aD)]) M (λ_ M=>M.length=49) rfl (dh hl) hM ?_ ?_
  ·intro j M hj hM
   refine⟨by rw[Oy];exact hM,λq=>?_⟩
   have ht:=DS (H4 hs ar ((i:Int)+1)) (gZ (n:=j) (by omega) hj)
   unfold H5
   have hb:jO (gt (qv s ar ((i:Int)+1)) j).to 1 6=true:=aZ.2 ht.1
   simp(disch:=omega) only[↓pq,↓pj,ps,pz,↓reduceIte,af,ah,ai,aj,ak,ap,aq,au,av,WS,WU,hj,Jo,hb,an9 _ _ _ _ h hn,DR]
   simp only[true_and]
   by_cases hc:sK s ar (gt (qv s ar ((i:Int)+1)) j).to ((i:Int)+1)>0
   ·simp only[hc,if_true]
   ·simp only[hc,if_false]
  ·intro M q' hM
   simp(disch:=omega) only[↓pq,↓pj,ps,pz,↓reduceIte,af,ah,ai,aj,ak,ap,aq,au,av,WS,WU,]
 ·intro M q hM
  simp(disch:=omega) only[↓pq,↓pj,ps,pz,↓reduceIte,af,ah,ai,aj,ak,ap,aq,au,av,WS,WU,]
def vp{α:Type}(f:Nat->α):List α:=(List.range 7).map f
theorem DW{α:Type}(f:Nat->α):(vp f).length=7:=by simp[vp]
theorem OB{α:Type} [Inhabited α](f:Nat->α){v:Int}(h:0<=v)(h':v<7):gt (vp f) v=f v.toNat:=by
 obtain⟨n,rfl⟩:∃n:Nat,v=n:=⟨v.toNat,by omega⟩
 rw[ed (by rw[DW];omega)]
 simp[vp]
theorem AV{α:Type}{f g:Nat->α}(h:∀i,i<7->f i=g i):vp f=vp g:=by
 unfold vp
 exact List.map_congr_left λi hi=>h i (by simpa using hi)
theorem DX{α:Type}(f:Nat->α)(n:Nat)(x:α):(vp f).set n x=vp λi=>if i=n then x else f i:=by
 refine List.ext_getElem (by simp[vp]) λi h1 h2=>?_
 simp only[List.getElem_set,vp,List.getElem_map,List.getElem_range]
 by_cases h:n=i
 ·simp[h]
 ·rw[if_neg h,if_neg (λe=>h e.symm)]
def EW(W:List Way)(D:List Int)(b:Int)(i:Nat):Int:=
 if¬((gt W ((i:Int)+1)).to=0)∧D.contains ((i:Int)+1)=false∧(b=0∨(gt W ((i:Int)+1)).cost<(gt W b).cost)then(i:Int)+1 else b
def dT(W:List Way)(D:List Int):Int:=(List.range 6).foldl (EW W D) 0
def oG(s:List ay)(ar fr at':Int)(W:List Way)(i:Nat):List Way:=
 if du s ar at' ((i:Int)+1)=0∨(i:Int)+1=fr then W
 else if(gt W ((i:Int)+1)).to=0∨(gt W at').cost+du s ar at' ((i:Int)+1)<(gt W ((i:Int)+1)).cost then
  W.set (i+1) ⟨(i:Int)+1,(gt W at').cost+du s ar at' ((i:Int)+1),if at'=fr then [(i:Int)+1]else(gt W at').aF⟩
 else if(gt W at').cost+du s ar at' ((i:Int)+1)=(gt W ((i:Int)+1)).cost then
  W.set (i+1) (jI (gt W ((i:Int)+1)) ⟨(i:Int)+1,(gt W at').cost+du s ar at' ((i:Int)+1),if at'=fr then [(i:Int)+1]else(gt W at').aF⟩)
 else W
def rD(s:List ay)(ar fr at':Int)(W:List Way):List Way:=(List.range 6).foldl (oG s ar fr at') W
def sj(s:List ay)(ar fr:Int):Nat->List Way->List Int->List Way
 |0,W,_=>W
 |k+1,W,D=>if dT W D=0 then W else sj s ar fr k (rD s ar fr (dT W D) W) (D++[dT W D])
def wo:Way:=⟨0,0,[]⟩
def W0(fr:Int):List Way:=(List.replicate 7 wo).set fr.toNat ⟨fr,0,[]⟩
def yn(W:List Way):List Way:=W.filter λw=>!(w.to==0)
def aH(s:List ay)(ar fr:Int):List Way:=if eA s=true∧jO fr 1 6=true∧0<=iz s ar fr then yn (sj s ar fr 6 (W0 fr) [])else []
structure pd (W:List Way) (c:Int):Prop where
 len:W.length=7
 aF:∀v:Int,0<=v->v<7->fo (gt W v).aF
 cost:∀v:Int,0<=v->v<7->0<=(gt W v).cost∧(gt W v).cost<=c
 to:∀v:Int,0<=v->v<7->(gt W v).to=0∨(gt W v).to=v
theorem pd.mono{W:List Way}{c c':Int}(h:pd W c)(hc:c<=c'):pd W c':=⟨h.len,h.aF,λv h1 h2=>by have:=h.cost v h1 h2;omega,h.to⟩
theorem vq{W:List Way}{i:Nat}{w:Way}{v:Int}(hl:W.length=7)(hi:i<6)(h0:0<=v):gt (W.set (i+1) w) v=if v=(i:Int)+1 then w else gt W v:=by
 have:=AR (l:=W) (i:=(i:Int)+1) (j:=v) (x:=w) (by omega) (by omega) h0
 rw[show((i:Int)+1).toNat=i+1 by omega]at this
 rw[this]
 exact As ⟨λh=>h.symm,λh=>h.symm⟩ _ _
theorem H6{a b:Way}(ha:fo a.aF)(hb:fo b.aF):fo (jI a b).aF:=by
 unfold jI
 split
 ·exact ha
 ·split
  ·exact hb
  ·exact HS _ _
theorem AW(a b:Way):(jI a b).cost=a.cost∨(jI a b).cost=b.cost:=by
 unfold jI
 split
 ·exact .inl rfl
 ·split
  ·exact .inr rfl
  ·exact .inl rfl
theorem yo{a b:Way}{n:Int}(ha:a.to=n)(hb:b.to=n):(jI a b).to=n:=by
 unfold jI
 split
 ·exact ha
 ·split
  ·exact hb
  ·exact ha
theorem H7{s:List ay}(hs:eA s=true)(ar a:Int):du s ar a a=0:=by
 have:sK s ar a a=0:=by
  unfold sK
  refine XE λx hx=>?_
  exact(DS (H4 hs ar a) hx).2.1
 unfold du
 rw[this];rfl
theorem H8{s:List ay}(hs:eA s=true)(ar fr:Int){at':Int}(ha:1<=at'∧at'<=6){W:List Way}{c:Int}(hc:0<=c)(h:pd W (c+1000))(bN:(gt W at').cost<=c){i:Nat}(hi:i<6):
  pd (oG s ar fr at' W i) (c+1000)∧gt (oG s ar fr at' W i) at'=gt W at':=by
 have hb:=DT hs ar at' ((i:Int)+1)
 have hz:=h.cost at' (by omega) (by omega)
 have ho:=h.cost ((i:Int)+1) (by omega) (by omega)
 have B7:=h.aF ((i:Int)+1) (by omega) (by omega)
 have jd:fo (if at'=fr then [(i:Int)+1]else(gt W at').aF):=by
  split
  ·exact Jr (by omega) (by omega)
  ·exact h.aF at' (by omega) (by omega)
 have sQ:∀w:Way,w.to=(i:Int)+1->fo w.aF->0<=w.cost->w.cost<=c+1000->¬(du s ar at' ((i:Int)+1)=0)->pd (W.set (i+1) w) (c+1000)∧gt (W.set (i+1) w) at'=gt W at':=by
  intro w h1 h2 h3 h4 h5
  have dI:¬(at'=(i:Int)+1):=by intro e;rw[<-e,H7 hs]at h5;exact h5 rfl
  refine⟨⟨by simp[h.len],λv h6 h7=>?_,λv h6 h7=>?_,λv h6 h7=>?_⟩,?_⟩
  ·rw[vq h.len hi h6];split
   ·exact h2
   ·exact h.aF v h6 h7
  ·rw[vq h.len hi h6];split
   ·exact⟨h3,h4⟩
   ·exact h.cost v h6 h7
  ·rw[vq h.len hi h6];split
   ·rename_i e;rw[e,h1];exact .inr rfl
   ·exact h.to v h6 h7
  ·rw[vq h.len hi (by omega),if_neg dI]
 unfold oG
 by_cases h1:du s ar at' ((i:Int)+1)=0∨(i:Int)+1=fr
 ·rw[if_pos h1];exact⟨h,rfl⟩
 rw[if_neg h1]
 by_cases h2:(gt W ((i:Int)+1)).to=0∨(gt W at').cost+du s ar at' ((i:Int)+1)<(gt W ((i:Int)+1)).cost
 ·rw[if_pos h2]
  exact sQ _ rfl jd (by show 0<=(gt W at').cost+_;omega) (by show(gt W at').cost+_<=_;omega) (λe=>h1 (.inl e))
 rw[if_neg h2]
 by_cases h3:(gt W at').cost+du s ar at' ((i:Int)+1)=(gt W ((i:Int)+1)).cost
 ·rw[if_pos h3]
  have nK:=(h.to ((i:Int)+1) (by omega) (by omega)).resolve_left (λe=>h2 (.inl e))
  have htc:(jI (gt W ((i:Int)+1)) ⟨(i:Int)+1,(gt W at').cost+du s ar at' ((i:Int)+1),if at'=fr then [(i:Int)+1]else(gt W at').aF⟩).cost=(gt W ((i:Int)+1)).cost:=by
   rcases AW (gt W ((i:Int)+1)) ⟨(i:Int)+1,(gt W at').cost+du s ar at' ((i:Int)+1),if at'=fr then [(i:Int)+1]else(gt W at').aF⟩with e|e
   ·exact e
   ·rw[e];exact h3
  exact sQ _ (yo nK rfl) (H6 B7 jd) (by rw[htc];omega) (by rw[htc];omega) (λe=>h1 (.inl e))
 ·rw[if_neg h3];exact⟨h,rfl⟩
theorem aoe{s:List ay}(hs:eA s=true)(ar fr:Int){at':Int}(ha:1<=at'∧at'<=6){W:List Way}{c:Int}(hc:0<=c)(h:pd W c):pd (rD s ar fr at' W) (c+1000)∧gt (rD s ar fr at' W) at'=gt W at':=by
 have hl:(List.range 6).length=6:=List.length_range
 exact LR (l:=List.range 6) (g:=oG s ar fr at') (c:=W) (Inv:=λ_ W'=>pd W' (c+1000)∧gt W' at'=gt W at') ⟨h.mono (by omega),rfl⟩ λi W' hi ⟨h1,h2⟩=>by
  rw[hl]at hi
  rw[ed (by rw[hl];omega),List.getElem_range]
  obtain⟨h3,h4⟩:=H8 hs ar fr ha hc h1 (by rw[h2];exact(h.cost at' (by omega) (by omega)).2) (show i<6 by omega)
  exact⟨h3,h4.trans h2⟩
theorem Rz(W:List Way)(D:List Int):(dT W D=0∧∀u:Int,1<=u->u<=6->(gt W u).to≠0->u∈D)∨
  ((1<=dT W D∧dT W D<=6)∧(gt W (dT W D)).to≠0∧dT W D∉D∧∀u:Int,1<=u->u<=6->(gt W u).to≠0->u∉D->(gt W (dT W D)).cost<=(gt W u).cost):=by
 have hl:(List.range 6).length=6:=List.length_range
 have key:=LR (l:=List.range 6) (g:=EW W D) (c:=0) (Inv:=λi b=>(b=0∧∀u:Int,1<=u->u<=i->(gt W u).to≠0->u∈D)∨
  ((1<=b∧b<=i)∧(gt W b).to≠0∧b∉D∧∀u:Int,1<=u->u<=i->(gt W u).to≠0->u∉D->(gt W b).cost<=(gt W u).cost)) (.inl ⟨rfl,λu h1 h2=>by omega⟩) λi b hi hb=>by
   rw[hl]at hi
   rw[ed (by rw[hl];omega),List.getElem_range]
   unfold EW
   have hD:∀x:Int,D.contains x=false↔x∉D:=λx=>by rw[<-Bool.not_eq_true,List.contains_iff_mem]
   by_cases hc:¬((gt W ((i:Int)+1)).to=0)∧D.contains ((i:Int)+1)=false∧(b=0∨(gt W ((i:Int)+1)).cost<(gt W b).cost)
   ·rw[if_pos hc]
    refine .inr ⟨by omega,hc.1,(hD _).1 hc.2.1,λu h1 h2 h3 h4=>?_⟩
    by_cases hu:u=(i:Int)+1
    ·rw[hu];exact Int.le_refl _
    ·rcases hb with⟨hb,qS⟩|⟨lR,qS,RA,hb4⟩
     ·exact absurd (qS u h1 (by omega) h3) h4
     ·have:=hb4 u h1 (by omega) h3 h4
      rcases hc.2.2 with h5|h5
      ·omega
      ·omega
   ·rw[if_neg hc]
    rcases hb with⟨hb,qS⟩|⟨lR,qS,RA,hb4⟩
    ·refine .inl ⟨hb,λu h1 h2 h3=>?_⟩
     by_cases hu:u=(i:Int)+1
     ·subst hu
      by_cases hm:(i:Int)+1∈D
      ·exact hm
      ·exact absurd ⟨h3,(hD _).2 hm,.inl hb⟩ hc
     ·exact qS u h1 (by omega) h3
    ·refine .inr ⟨by omega,qS,RA,λu h1 h2 h3 h4=>?_⟩
     by_cases hu:u=(i:Int)+1
     ·subst hu
      have:¬((gt W ((i:Int)+1)).cost<(gt W b).cost):=λh5=>hc ⟨h3,(hD _).2 h4,.inr h5⟩
      omega
     ·exact hb4 u h1 (by omega) h3 h4
 rw[hl]at key
 exact key
structure gU (fr:Int) (W:List Way) (D:List Int):Prop where
 ok:pd W (1000*D.length)
 fr6:1<=fr∧fr<=6
 nd:D.Nodup
 mem:∀v∈D,(1<=v∧v<=6)∧(gt W v).to≠0
 mono:∀v∈D,∀u:Int,1<=u->u<=6->u∉D->(gt W u).to≠0->(gt W v).cost<=(gt W u).cost
 first:(D=[]∧∀u:Int,1<=u->u<=6->(gt W u).to≠0->u=fr)∨fr∈D
theorem aog{D l:List Int}(hn:D.Nodup)(hm:∀v∈D,v∈l):D.length<=l.length:=by
 induction D generalizing l with
 |nil=>simp
 |cons x D ih=>
  have hx:=List.nodup_cons.1 hn
  have hl:=List.length_erase_of_mem (hm x (.head _))
  have hp:0<l.length:=List.length_pos_of_mem (hm x (.head _))
  have:=ih (l:=l.erase x) hx.2 λv hv=>(List.mem_erase_of_ne (show v≠x fromλe=>hx.1 (e▸hv))).2 (hm v (.tail _ hv))
  simp only[List.length_cons];omega
theorem XG{D:List Int}(hn:D.Nodup)(hm:∀v∈D,1<=v∧v<=6):D.length<=6:=
 aog (l:=xd) hn λv hv=>iy.2 (hm v hv)
theorem wq{fr:Int}(h:1<=fr∧fr<=6){v:Int}(h0:0<=v)(h7:v<7):gt (W0 fr) v=if fr=v then⟨fr,0,[]⟩else wo:=by
 unfold W0
 rw[AR (by omega) (by simp;omega) h0]
 split
 ·rfl
 ·exact Ow h0 (by omega)
theorem gU.start{fr:Int}(h:1<=fr∧fr<=6):gU fr (W0 fr) []:=by
 refine⟨⟨by simp[W0],λv h0 h7=>?_,λv h0 h7=>?_,λv h0 h7=>?_⟩,h,.nil,by simp,by simp,.inl ⟨rfl,λu h1 h2 h3=>?_⟩⟩
 ·rw[wq h h0 h7];split<;>exact DP
 ·rw[wq h h0 h7];split<;>simp[wo]
 ·rw[wq h h0 h7];split
  ·rename_i e;exact .inr e
  ·exact .inl rfl
 ·rw[wq h (by omega) (by omega)]at h3
  split at h3
  ·rename_i e;exact e.symm
  ·exact absurd rfl h3
theorem aoh{s:List ay}(hs:eA s=true)(ar fr:Int){at':Int}(ha:1<=at'∧at'<=6){W:List Way}{c:Int}(hc:0<=c)(h:pd W c){v:Int}(hv:1<=v∧v<=6):
  gt (rD s ar fr at' W) v=gt W v∨((gt (rD s ar fr at' W) v).to=v∧v≠fr∧¬(du s ar at' v=0)∧((gt W v).to=0∨(gt W at').cost+du s ar at' v<=(gt W v).cost)∧(gt (rD s ar fr at' W) v).cost=(gt W at').cost+du s ar at' v):=by
 have hl:(List.range 6).length=6:=List.length_range
 have key:=LR (l:=List.range 6) (g:=oG s ar fr at') (c:=W) (Inv:=λi W'=>pd W' (c+1000)∧gt W' at'=gt W at'∧(∀u:Int,(i:Int)<u->u<=6->gt W' u=gt W u)∧∀u:Int,1<=u->u<=i->gt W' u=gt W u∨((gt W' u).to=u∧u≠fr∧¬(du s ar at' u=0)∧((gt W u).to=0∨(gt W at').cost+du s ar at' u<=(gt W u).cost)∧(gt W' u).cost=(gt W at').cost+du s ar at' u))
  ⟨h.mono (by omega),rfl,λu _ _=>rfl,λu h1 h2=>by omega⟩ λi W' hi ⟨h1,h2,h3,h4⟩=>by
  rw[hl]at hi
  rw[ed (by rw[hl];omega),List.getElem_range]
  have pD:i<6:=by omega
  obtain⟨h5,h6⟩:=H8 hs ar fr ha hc h1 (by rw[h2];exact(h.cost at' (by omega) (by omega)).2) pD
  refine⟨h5,h6.trans h2,λu h7 h8=>?_,λu h7 h8=>?_⟩
  ·rw[<-h3 u (by omega) h8]
   unfold oG
   split
   ·rfl
   ·split
    ·rw[vq h1.len pD (by omega),if_neg (by omega)]
    ·split
     ·rw[vq h1.len pD (by omega),if_neg (by omega)]
     ·rfl
  ·by_cases hu:u=(i:Int)+1
   ·subst hu
    have hold:=h3 ((i:Int)+1) (by omega) (by omega)
    unfold oG
    rw[hold,h2]
    by_cases q1:du s ar at' ((i:Int)+1)=0∨(i:Int)+1=fr
    ·rw[if_pos q1];exact .inl hold
    rw[if_neg q1]
    by_cases q2:(gt W ((i:Int)+1)).to=0∨(gt W at').cost+du s ar at' ((i:Int)+1)<(gt W ((i:Int)+1)).cost
    ·rw[if_pos q2,vq h1.len pD (by omega),if_pos rfl]
     exact .inr ⟨rfl,λe=>q1 (.inr e),λe=>q1 (.inl e),q2.imp_right (λe=>by omega),rfl⟩
    rw[if_neg q2]
    by_cases q3:(gt W at').cost+du s ar at' ((i:Int)+1)=(gt W ((i:Int)+1)).cost
    ·rw[if_pos q3,vq h1.len pD (by omega),if_pos rfl]
     have nK:=(h.to ((i:Int)+1) (by omega) (by omega)).resolve_left (λe=>q2 (.inl e))
     refine .inr ⟨yo nK rfl,λe=>q1 (.inr e),λe=>q1 (.inl e),.inr (by omega),?_⟩
     ·rcases AW (gt W ((i:Int)+1)) ⟨(i:Int)+1,(gt W at').cost+du s ar at' ((i:Int)+1),if at'=fr then [(i:Int)+1]else(gt W at').aF⟩with e|e
      ·rw[e];omega
      ·rw[e]
    ·rw[if_neg q3];exact .inl hold
   ·have hk:gt (oG s ar fr at' W' i) u=gt W' u:=by
     unfold oG
     split
     ·rfl
     ·split
      ·rw[vq h1.len pD (by omega),if_neg hu]
      ·split
       ·rw[vq h1.len pD (by omega),if_neg hu]
       ·rfl
    rw[hk]
    exact h4 u h7 (by omega)
 rw[hl]at key
 exact key.2.2.2 v hv.1 hv.2
theorem gU.step{s:List ay}(hs:eA s=true)(ar:Int){fr:Int}{W:List Way}{D:List Int}(h:gU fr W D)(hb:dT W D≠0):gU fr (rD s ar fr (dT W D) W) (D++[dT W D]):=by
 obtain⟨h1,h2,h3,h4⟩:=(Rz W D).resolve_left λe=>hb e.1
 have hc:(0:Int)<=1000*D.length:=by omega
 obtain⟨g1,g2⟩:=aoe hs ar fr h1 hc h.ok
 have CK:=λv hv=>aoh hs ar fr h1 hc h.ok (v:=v) hv
 have hold:∀v∈D,gt (rD s ar fr (dT W D) W) v=gt W v:=by
  intro v hv
  rcases CK v (h.mem v hv).1 with e|⟨_,_,e1,e2,_⟩
  ·exact e
  ·have hm:=h.mono v hv _ h1.1 h1.2 h3 h2
   have hk:=DT hs ar (dT W D) v
   rcases e2 with e2|e2
   ·exact absurd e2 (h.mem v hv).2
   ·omega
 refine⟨?_,h.fr6,?_,λv hv=>?_,λv hv u PY zU hu3 hu4=>?_,?_⟩
 ·refine g1.mono ?_
  simp only[List.length_append,List.length_singleton,LN,LO];omega
 ·rw[List.nodup_append]
  exact⟨h.nd,by simp,by intro a ha b kl;rw[List.mem_singleton]at kl;subst kl;intro e;exact h3 (e▸ha)⟩
 ·rcases List.mem_append.1 hv with hv|hv
  ·rw[hold v hv];exact h.mem v hv
  ·rw[List.mem_singleton]at hv
   subst hv
   rw[g2];exact⟨h1,h2⟩
 ·have aoi:u∉D∧u≠dT W D:=by simpa using hu3
  have hcv:(gt (rD s ar fr (dT W D) W) v).cost<=(gt W (dT W D)).cost:=by
   rcases List.mem_append.1 hv with hv|hv
   ·rw[hold v hv];exact h.mono v hv _ h1.1 h1.2 h3 h2
   ·rw[List.mem_singleton]at hv;subst hv;rw[g2];exact Int.le_refl _
  rcases CK u ⟨PY,zU⟩with e|⟨_,_,_,_,e⟩
  ·rw[e]at hu4⊢
   have:=h4 u PY zU hu4 aoi.1
   omega
  ·have hk:=DT hs ar (dT W D) u
   omega
 ·right
  rcases h.first with⟨e,hf⟩|hf
  ·rw[hf _ h1.1 h1.2 h2];simp
  ·simp[hf]
theorem gU.full{fr:Int}{W:List Way}{D:List Int}(h:gU fr W D)(hd:D.length=6):dT W D=0:=by
 rcases Rz W D with e|⟨h1,h2,h3,_⟩
 ·exact e.1
 ·have hn:(dT W D::D).Nodup:=List.nodup_cons.2 ⟨h3,h.nd⟩
  have:=XG hn λv hv=>by
   rcases List.mem_cons.1 hv with rfl|hv
   ·exact h1
   ·exact(h.mem v hv).1
  simp at this;omega
theorem gU.len{fr:Int}{W:List Way}{D:List Int}(h:gU fr W D):D.length<=6:=XG h.nd λv hv=>(h.mem v hv).1
theorem aoj{s:List ay}(hs:eA s=true){ar fr:Int}{F:aB->aB}(stf:List Way->List Int->List T)(out:List Way->List Int->Option (List T))
  (hF:∀W D q,gU fr W D->F q (stf W D)=if dT W D=0 then out W D else q (stf (rD s ar fr (dT W D) W) (D++[dT W D])))
  (fin:∀W D,gU fr W D->dT W D=0->out W D=some [.l ((yn W).map br)]):
  ∀k W D R,gU fr W D->D.length+k=6->k<R->iter F R (stf W D)=some [.l ((yn (sj s ar fr k W D)).map br)]:=by
 intro k
 induction k with
 |zero=>
  intro W D R h hk hR
  cases R with
  |zero=>omega
  |succ R=>
   have hb:=h.full (by omega)
   unfold iter
   rw[hF W D _ h,if_pos hb,fin W D h hb];rfl
 |succ k ih=>
  intro W D R h hk hR
  cases R with
  |zero=>omega
  |succ R=>
   unfold iter
   rw[hF W D _ h]
   by_cases hb:dT W D=0
   ·rw[if_pos hb,fin W D h hb]
    unfold sj
    rw[if_pos hb]
   ·rw[if_neg hb,ih _ _ R (h.step hs ar hb) (by simp;omega) (by omega)]
    conv=>rhs;unfold sj
    rw[if_neg hb]
theorem aol(W:List Way):(yn W).length<=W.length:=List.length_filter_le _ _
set_option maxHeartbeats 1600000 in
theorem OC(s:List ay)(ar fr:Int)(h:s.length<=1048576)(hn:bh s):BO [.l (s.map aC),ii ar,ii fr]=some [.l ((aH s ar fr).map br)]:=by
 have hP:=Jv s ar fr
 rw[am2];simp(disch:=omega) only[↓pq,↓pj,ps,pz,↓reduceIte,af,ah,ai,aj,ak,ap,aq,au,av,vj,vk,vl,vm,NU,Xl _ h hn,wl,Oi]
 rw[<-iz]
 unfold aH
 cases hs:eA s with
 |false=>simp
 |true=>
 cases h6:jO fr 1 6 with
 |false=>simp
 |true=>
 have XH:=aZ.1 h6
 by_cases hp:iz s ar fr<0
 ·have hq:¬(0<=iz s ar fr):=by omega
  simp[hp,hq]
 have hq:0<=iz s ar fr:=by omega
 rw[if_pos (show(true=true∧true=true∧0<=iz s ar fr) from⟨rfl,rfl,hq⟩)]
 have hm:=yl (enc:=br) (n:=7) (x:=wo) (vs:=[ii 0,ii 0,.l []]) (by decide) rfl
 have hl7:(List.replicate 7 wo).length=7:=by simp
 have bE:fr<((List.replicate 7 wo).length:Int):=by rw[hl7];omega
 have nu:Prim.ev (.put true 3 0 1) [.l ((List.replicate 7 wo).map br),ii fr,ii fr]=some (.l ((W0 fr).map br)):=by
  rw[an4 (by omega) bE,Ow (by omega) (by omega)];rfl
 simp only[not_true_eq_false,if_false,hp]
 rw[show Prim.ev .mk [ii 7,ii 7,ii 0,ii 0,.l []]=some (.l ((List.replicate 7 wo).map br)) from hm,fU,Gz (by omega) bE,fU,nu,fU]
 refine aoj hs (λW D=>[.l (D.map aD),.l (W.map br)]) (λW D=>some [.l ((yn W).map br)]) ?_ (λW D _ _=>rfl) 6 (W0 fr) [] rounds (gU.start XH) rfl (by unfold rounds;omega)
 intro W D q hI
 simp(disch:=omega) only[↓pq,↓pj,ps,pz,↓reduceIte,af,ah,ai,aj,ak,ap,aq,au,av,vj,vk,vl,vm,]
 have hW:=hI.ok
 have XI:=hW.len
 have hD:=hI.len
 have hc:∀v:Int,0<=v->v<7->0<=(gt W v).cost∧(gt W v).cost<=6000:=λv h0 h1=>by have:=hW.cost v h0 h1;omega
 refine rZ 6 (λi b=>[ii b,ii (i+1)]) (EW W D) (λb=>if b=0 then some [T.l ((yn W).map br)]else q [T.l ((D++[b]).map aD),T.l ((rD s ar fr b W).map br)]) 0 (λi b=>0<=b∧b<=6∧((i:Int)<=6->b≠0->(gt W b).to≠0)) rfl (dh (by omega)) (by simp) ?_ ?_ |>.trans (by rfl)
 ·intro i b hi ⟨Kv,RB,jf⟩
  refine⟨?_,λw=>?_⟩
  ·unfold EW
   split
   ·rename_i hx;exact⟨by omega,by omega,λ_ _=>hx.1⟩
   ·exact⟨Kv,RB,λh1=>jf (by omega)⟩
  ·have aO:(i:Int)+1<=6:=by omega
   simp(disch:=omega) only[↓pq,↓pj,ps,pz,↓reduceIte,af,ah,ai,aj,ak,ap,aq,au,av,vj,vk,vl,vm,aO,zu _ _ (show D.length<=1048576 by omega)]
   unfold EW
   cases EX:D.contains ((i:Int)+1)<;>by_cases q1:(gt W ((i:Int)+1)).to=0<;>by_cases q2:b=0<;>by_cases q3:(gt W ((i:Int)+1)).cost<(gt W b).cost<;>simp[q1,q2,q3]
 ·intro b w ⟨Kv,RB,jf⟩
  simp(disch:=omega) only[↓pq,↓pj,ps,pz,↓reduceIte,af,ah,ai,aj,ak,ap,aq,au,av,vj,vk,vl,vm,]
  by_cases hb:b=0
  ·simp only[hb,if_true]
   have hz:Prim.ev .len [.l (W.map br)]=some (ii W.length):=xV
   refine(g_ W (λi c=>[.l (c.map br),ii i,.l (gA br W i)]) (λc w=>if(!(w.to==0))=true then c++[w]else c) (λc=>some [T.l (c.map br)]) [] (λi c=>c.length<=i) rfl (dh (by omega)) (by simp) ?_ ?_).trans (by rw[Dx,List.nil_append,<-yn])
   ·intro i c hi uX
    refine⟨by split<;>(try simp)<;>omega,λw=>?_⟩
    have aO:i<W.length:=by omega
    simp(disch:=omega) only[↓pq,↓pj,ps,pz,↓reduceIte,af,ah,ai,aj,ak,ap,aq,au,av,vj,vk,vl,vm,hi,an6 (enc:=br) (λ_=>rfl) aO]
    by_cases q1:(gt W (i:Int)).to=0<;>simp[q1]
   ·intro c w uX
    simp(disch:=omega) only[↓pq,↓pj,ps,pz,↓reduceIte,af,ah,ai,aj,ak,ap,aq,au,av,vj,vk,vl,vm,]
  ·simp only[hb,if_false]
   have lR:1<=b∧b<=6:=by omega
   refine rZ 6 (λi W=>[ii (i+1),.l (W.map br)]) (oG s ar fr b) (λW'=>q [T.l ((D++[b]).map aD),T.l (W'.map br)]) W (λ_ W'=>pd W' (1000*D.length+1000)∧gt W' b=gt W b) rfl (dh (by omega)) ⟨hW.mono (by omega),rfl⟩ ?_ ?_
   ·intro i W' hi ⟨uY,pO⟩
    have qK:=hW.cost b (by omega) (by omega)
    have cC:=H8 hs ar fr lR (by omega) uY (by rw[pO];exact qK.2) (show i<6 by omega)
    refine⟨⟨cC.1,cC.2.trans pO⟩,λw=>?_⟩
    have aO:(i:Int)+1<=6:=by omega
    have lu:=uY.len
    have CO:=DT hs ar b ((i:Int)+1)
    have aon:=uY.cost b (by omega) (by omega)
    have aoo:=uY.cost ((i:Int)+1) (by omega) (by omega)
    have H9:=uY.aF b (by omega) (by omega)
    have B7:=uY.aF ((i:Int)+1) (by omega) (by omega)
    have hhl:=sf H9
    have jd:fo (if b=fr then [(i:Int)+1]else(gt W' b).aF):=by
     split
     ·exact Jr (by omega) (by omega)
     ·exact H9
    have wu:((i:Int)+1).toNat=i+1:=by omega
    have hT1:=λc=>H0 (gt W' ((i:Int)+1)).to (gt W' ((i:Int)+1)).cost (gt W' ((i:Int)+1)).aF ((i:Int)+1) c [(i:Int)+1] B7 (Jr (by omega) (by omega))
    have hT2:=λc=>H0 (gt W' ((i:Int)+1)).to (gt W' ((i:Int)+1)).cost (gt W' ((i:Int)+1)).aF ((i:Int)+1) c (gt W' b).aF B7 H9
    unfold oG
    by_cases q1:du s ar b ((i:Int)+1)=0
    ·simp(disch:=omega) only[↓pq,↓pj,ps,pz,↓reduceIte,af,ah,ai,aj,ak,ap,aq,au,av,vj,vk,vl,vm,aO,EV _ _ _ _ h hn,q1,true_or]
    by_cases q2:(i:Int)+1=fr
    ·simp(disch:=omega) only[↓pq,↓pj,ps,pz,↓reduceIte,af,ah,ai,aj,ak,ap,aq,au,av,vj,vk,vl,vm,aO,EV _ _ _ _ h hn,q1,eq_true q2,or_true]
    by_cases q3:b=fr
    ·have H_:=eq_true q3
     by_cases q4:(gt W' ((i:Int)+1)).to=0
     ·simp(disch:=omega) only[↓pq,↓pj,ps,pz,↓reduceIte,af,ah,ai,aj,ak,ap,aq,au,av,vj,vk,vl,vm,aO,EV _ _ _ _ h hn,q1,q2,H_,q4,rC _ (show(gt W' b).aF.length<=1048576 by omega),AQ,H2,wu,true_or]
     by_cases q5:(gt W' b).cost+du s ar b ((i:Int)+1)<(gt W' ((i:Int)+1)).cost
     ·simp(disch:=omega) only[↓pq,↓pj,ps,pz,↓reduceIte,af,ah,ai,aj,ak,ap,aq,au,av,vj,vk,vl,vm,aO,EV _ _ _ _ h hn,q1,q2,H_,q4,q5,rC _ (show(gt W' b).aF.length<=1048576 by omega),AQ,H2,wu,or_true]
     by_cases q6:(gt W' b).cost+du s ar b ((i:Int)+1)=(gt W' ((i:Int)+1)).cost
     ·simp(disch:=omega) only[↓pq,↓pj,ps,pz,↓reduceIte,af,ah,ai,aj,ak,ap,aq,au,av,vj,vk,vl,vm,aO,EV _ _ _ _ h hn,q1,q2,H_,q4,q5,q6,rC _ (show(gt W' b).aF.length<=1048576 by omega),hT1,br,AQ,H2,wu,or_self]
     ·simp(disch:=omega) only[↓pq,↓pj,ps,pz,↓reduceIte,af,ah,ai,aj,ak,ap,aq,au,av,vj,vk,vl,vm,aO,EV _ _ _ _ h hn,q1,q2,H_,q4,q5,q6,rC _ (show(gt W' b).aF.length<=1048576 by omega),or_self]
    ·have H_:=eq_false q3
     by_cases q4:(gt W' ((i:Int)+1)).to=0
     ·simp(disch:=omega) only[↓pq,↓pj,ps,pz,↓reduceIte,af,ah,ai,aj,ak,ap,aq,au,av,vj,vk,vl,vm,aO,EV _ _ _ _ h hn,q1,q2,H_,q4,rC _ (show(gt W' b).aF.length<=1048576 by omega),AQ,H2,wu,true_or]
     by_cases q5:(gt W' b).cost+du s ar b ((i:Int)+1)<(gt W' ((i:Int)+1)).cost
     ·simp(disch:=omega) only[↓pq,↓pj,ps,pz,↓reduceIte,af,ah,ai,aj,ak,ap,aq,au,av,vj,vk,vl,vm,aO,EV _ _ _ _ h hn,q1,q2,H_,q4,q5,rC _ (show(gt W' b).aF.length<=1048576 by omega),AQ,H2,wu,or_true]
     by_cases q6:(gt W' b).cost+du s ar b ((i:Int)+1)=(gt W' ((i:Int)+1)).cost
     ·simp(disch:=omega) only[↓pq,↓pj,ps,pz,↓reduceIte,af,ah,ai,aj,ak,ap,aq,au,av,vj,vk,vl,vm,aO,EV _ _ _ _ h hn,q1,q2,H_,q4,q5,q6,rC _ (show(gt W' b).aF.length<=1048576 by omega),hT2,br,AQ,H2,wu,or_self]
     ·simp(disch:=omega) only[↓pq,↓pj,ps,pz,↓reduceIte,af,ah,ai,aj,ak,ap,aq,au,av,vj,vk,vl,vm,aO,EV _ _ _ _ h hn,q1,q2,H_,q4,q5,q6,rC _ (show(gt W' b).aF.length<=1048576 by omega),or_self]
   ·intro W' w _
    simp(disch:=omega) only[↓pq,↓pj,ps,pz,↓reduceIte,af,ah,ai,aj,ak,ap,aq,au,av,vj,vk,vl,vm,]
end Go.Proofs.YtjimmglpkndemaaGreatC

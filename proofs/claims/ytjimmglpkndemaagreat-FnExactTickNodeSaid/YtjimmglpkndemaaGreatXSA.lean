/- What the small functions compute: words, nets, records, stores. Conditions: none. -/
import Derived.Test.YtjimmglpkndemaaGreatXGX
namespace Go.Proofs.YtjimmglpkndemaaGreatC
attribute [local irreducible] jp
open Int renaming reduceLE -> aj, reduceLT -> ak, reduceEq -> ap, reduceGT -> aq, reduceGE -> au, reduceAdd -> av, reduceSub -> aw, reduceMul -> ax, reduceNeg -> ay
set_option linter.unusedVariables false
set_option linter.unusedSimpArgs false
theorem j9(p:Prop) [Decidable p](x y:Bool):(if p then some [bb x]else some [bb y])=some [bb (if p then x else y)]:=by by_cases h:p<;>simp[h]
def gZ(a lo hi:Int):Bool:=decide (lo<=a)&&decide (a<=hi)
theorem aW{a lo hi:Int}:gZ a lo hi=true↔lo<=a∧a<=hi:=by simp[gZ]
theorem uu(a lo hi:Int):ui [ii a,ii lo,ii hi]=some [bb (gZ a lo hi)]:=by
 rw[aqs];simp(disch:=omega) only[↓pq,↓pj,ps,pz,↓reduceIte,aj,ak,ap,aq,au,av,aw,ax,ay,MV,j9];unfold gZ
 by_cases h:a>=lo<;>simp[h]<;>omega
theorem Gu(a lo hi:Int):r9 [ii a,ii lo,ii hi]=some [bb (gZ a lo hi)]:=by
 rw[aoH];simp(disch:=omega) only[↓pq,↓pj,ps,pz,↓reduceIte,aj,ak,ap,aq,au,av,aw,ax,ay,L6,j9];unfold gZ
 by_cases h:a>=lo<;>simp[h]<;>omega
def mT(n:Int)(l:bC):Bool:=gZ n 1 6&&gZ l.a 1 n&&gZ l.b 1 n&&decide (l.a<l.b)&&gZ l.cost 1 1000&&gZ l.ae 0 2
theorem arT(n a b c ar:Int):Xx [ii n,ii a,ii b,ii c,ii ar]=some [bb (mT n ⟨a,b,c,ar⟩)]:=by
 rw[aqu];simp(disch:=omega) only[↓pq,↓pj,ps,pz,↓reduceIte,aj,ak,ap,aq,au,av,aw,ax,ay,MW,uu,j9];unfold mT
 grind
theorem arU(n a b c ar:Int):U7 [ii n,ii a,ii b,ii c,ii ar]=some [bb (mT n ⟨a,b,c,ar⟩)]:=by
 rw[aoJ];simp(disch:=omega) only[↓pq,↓pj,ps,pz,↓reduceIte,aj,ak,ap,aq,au,av,aw,ax,ay,L7,Gu,j9];unfold mT
 grind
def mf(x y:bC):Bool:=decide (x.a<y.a∨x.a=y.a∧(x.b<y.b∨x.b=y.b∧x.ae<y.ae))
theorem arV(a b c d a' b' c' d':Int):BE [ii a,ii b,ii c,ii d,ii a',ii b',ii c',ii d']=some [bb (mf ⟨a,b,c,d⟩ ⟨a',b',c',d'⟩)]:=by
 rw[aqw];simp(disch:=omega) only[↓pq,↓pj,ps,pz,↓reduceIte,aj,ak,ap,aq,au,av,aw,ax,ay,MX,j9];unfold mf
 grind
theorem arW(a b c d a' b' c' d':Int):U_ [ii a,ii b,ii c,ii d,ii a',ii b',ii c',ii d']=some [bb (mf ⟨a,b,c,d⟩ ⟨a',b',c',d'⟩)]:=by
 rw[aoL];simp(disch:=omega) only[↓pq,↓pj,ps,pz,↓reduceIte,aj,ak,ap,aq,au,av,aw,ax,ay,L8,j9];unfold mf
 grind
def sj(x y:b_):Bool:=decide (x.key<y.key∨x.key=y.key∧x.owner<y.owner)
theorem arX(a b c a' b' c':Int)(d d':Bool):BF [ii a,ii b,ii c,bb d,ii a',ii b',ii c',bb d']=some [bb (sj ⟨a,b,c,d⟩ ⟨a',b',c',d'⟩)]:=by
 rw[aqy];simp(disch:=omega) only[↓pq,↓pj,ps,pz,↓reduceIte,aj,ak,ap,aq,au,av,aw,ax,ay,MY,j9];unfold sj
 grind
theorem arY(a b c a' b' c':Int)(d d':Bool):Vb [ii a,ii b,ii c,bb d,ii a',ii b',ii c',bb d']=some [bb (sj ⟨a,b,c,d⟩ ⟨a',b',c',d'⟩)]:=by
 rw[aoN];simp(disch:=omega) only[↓pq,↓pj,ps,pz,↓reduceIte,aj,ak,ap,aq,au,av,aw,ax,ay,L9,j9];unfold sj
 grind
def eo{α:Type} [Inhabited α](ok:α->Bool)(lt:α->α->Bool)(l:List α):Bool:=
 ln l.length λi=>ok (gt l i)&&(!decide ((i:Int)>0)||lt (gt l (i-1:Int)) (gt l i))
def vZ(n:Int)(t:b_):Bool:=gZ t.owner 1 n&&gZ t.key 1 9&&gZ t.cost 1 1000
def xh(x:Net):Bool:=gZ x.n 1 6&&decide (x.aF.length<=12)&&decide (x.aN.length<=4)&&eo (mT x.n) mf x.aF&&eo (vZ x.n) sj x.aN
theorem arZ(n:Int)(ls:List bC)(ts:List b_)(h1:ls.length<=1048576)(h2:ts.length<=1048576):Bw [ii n,.l (ls.map dC),.l (ts.map ef)]=some [bb (xh ⟨n,ls,ts⟩)]:=by
 rw[aoP];simp(disch:=omega) only[↓pq,↓pj,ps,pz,↓reduceIte,aj,ak,ap,aq,au,av,aw,ax,ay,L_,L',Ma,Gu]
 rw[show iter _ _ _=(some [bb (eo (mT n) mf ls&&eo (vZ n) sj ts)]:Option (List T)) from ?_]
 ·simp(disch:=omega) only[↓pq,↓pj,ps,pz,↓reduceIte,aj,ak,ap,aq,au,av,aw,ax,ay,L_,L',j9];unfold xh;grind
 refine(Br ls.length (λi=>[bb false,ii i]) (λi=>mT n (gt ls i)&&(!decide ((i:Int)>0)||mf (gt ls (i-1:Int)) (gt ls i))) (gf:=some [bb false]) (iR:=some [bb (eo (vZ n) sj ts)]) ?_ ?_ (by unfold rounds;omega)).trans ?_
 ·intro i hi s
  simp(disch:=omega) only[↓pq,↓pj,ps,pz,↓reduceIte,aj,ak,ap,aq,au,av,aw,ax,ay,L_,L',hi,arU,arW]
  grind
 ·intro s
  simp(disch:=omega) only[↓pq,↓pj,ps,pz,↓reduceIte,aj,ak,ap,aq,au,av,aw,ax,ay,L_,L',]
  refine(Br ts.length (λi=>[bb false,ii i]) (λi=>vZ n (gt ts i)&&(!decide ((i:Int)>0)||sj (gt ts (i-1:Int)) (gt ts i))) (gf:=some [bb false]) (iR:=some [bb true]) ?_ ?_ (by unfold rounds;omega)).trans ?_
  ·intro i hi s
   simp(disch:=omega) only[↓pq,↓pj,ps,pz,↓reduceIte,aj,ak,ap,aq,au,av,aw,ax,ay,L_,L',hi,Gu,arY]
   unfold vZ
   grind
  ·intro s
   simp(disch:=omega) only[↓pq,↓pj,ps,pz,↓reduceIte,aj,ak,ap,aq,au,av,aw,ax,ay,L_,L',]
  ·rw[j9];unfold eo;simp
 ·rw[j9];unfold eo;simp
theorem ar0(n:Int)(ls:List bC)(ts:List b_)(h1:ls.length<=1048576)(h2:ts.length<=1048576):BG [ii n,.l (ls.map dC),.l (ts.map ef)]=some [bb (xh ⟨n,ls,ts⟩)]:=by
 rw[aqA];simp(disch:=omega) only[↓pq,↓pj,ps,pz,↓reduceIte,aj,ak,ap,aq,au,av,aw,ax,ay,MZ,M0,M1,uu]
 rw[show iter _ _ _=(some [bb (eo (mT n) mf ls&&eo (vZ n) sj ts)]:Option (List T)) from ?_]
 ·simp(disch:=omega) only[↓pq,↓pj,ps,pz,↓reduceIte,aj,ak,ap,aq,au,av,aw,ax,ay,MZ,M0,j9];unfold xh;grind
 refine(Br ls.length (λi=>[bb false,ii i]) (λi=>mT n (gt ls i)&&(!decide ((i:Int)>0)||mf (gt ls (i-1:Int)) (gt ls i))) (gf:=some [bb false]) (iR:=some [bb (eo (vZ n) sj ts)]) ?_ ?_ (by unfold rounds;omega)).trans ?_
 ·intro i hi s
  simp(disch:=omega) only[↓pq,↓pj,ps,pz,↓reduceIte,aj,ak,ap,aq,au,av,aw,ax,ay,MZ,M0,hi,arT,arV]
  grind
 ·intro s
  simp(disch:=omega) only[↓pq,↓pj,ps,pz,↓reduceIte,aj,ak,ap,aq,au,av,aw,ax,ay,MZ,M0,]
  refine(Br ts.length (λi=>[bb false,ii i]) (λi=>vZ n (gt ts i)&&(!decide ((i:Int)>0)||sj (gt ts (i-1:Int)) (gt ts i))) (gf:=some [bb false]) (iR:=some [bb true]) ?_ ?_ (by unfold rounds;omega)).trans ?_
  ·intro i hi s
   simp(disch:=omega) only[↓pq,↓pj,ps,pz,↓reduceIte,aj,ak,ap,aq,au,av,aw,ax,ay,MZ,M0,hi,uu,arX]
   unfold vZ
   grind
  ·intro s
   simp(disch:=omega) only[↓pq,↓pj,ps,pz,↓reduceIte,aj,ak,ap,aq,au,av,aw,ax,ay,MZ,M0,]
  ·rw[j9];unfold eo;simp
 ·rw[j9];unfold eo;simp
def hZ(a b ar:Int)(l:bC):Bool:=l.ae==ar&&(l.a==a&&l.b==b||l.a==b&&l.b==a)
theorem ND{α:Type}(p:α->Bool)(l:List α):(if eF p l<0 then some [ii (-1)]else some [ii (eF p l)])=some [ii (eF p l)]:=by
 have h:=alh p l
 by_cases h':eF p l<0
 ·rw[if_pos h',show eF p l=-1 by omega]
 ·rw[if_neg h']
theorem NE(t0 t2:T)(ls:List bC)(a b ar:Int)(h1:ls.length<=1048576):FK [t0,.l (ls.map dC),t2,ii a,ii b,ii ar]=some [ii (eF (hZ a b ar) ls)]:=by
 rw[aqC];simp(disch:=omega) only[↓pq,↓pj,ps,pz,↓reduceIte,aj,ak,ap,aq,au,av,aw,ax,ay,jS_,M2]
 refine(KU ls (λi=>[ii 0,ii i]) (hZ a b ar) (λi=>some [ii i]) (lp:=some [ii (-1)]) ?_ ?_ (by unfold rounds;omega)).trans (ND _ _)
 ·intro i hi s
  simp(disch:=omega) only[↓pq,↓pj,ps,pz,↓reduceIte,aj,ak,ap,aq,au,av,aw,ax,ay,jS_,hi]
  unfold hZ
  grind
 ·intro s
  simp(disch:=omega) only[↓pq,↓pj,ps,pz,↓reduceIte,aj,ak,ap,aq,au,av,aw,ax,ay,jS_,]
def nG(ls:List bC)(a b ar:Int):Int:=if eF (hZ a b ar) ls<0 then 0 else(gt ls (eF (hZ a b ar) ls)).cost
theorem kY_(t0 t2:T)(ls:List bC)(a b ar:Int)(h1:ls.length<=1048576):Bx [t0,.l (ls.map dC),t2,ii a,ii b,ii ar]=some [ii (nG ls a b ar)]:=by
 rw[aoR];simp(disch:=omega) only[↓pq,↓pj,ps,pz,↓reduceIte,aj,ak,ap,aq,au,av,aw,ax,ay,jR_,Mb]
 refine(KU ls (λi=>[ii 0,ii i]) (hZ a b ar) (λi=>some [ii (gt ls i).cost]) (lp:=some [ii 0]) ?_ ?_ (by unfold rounds;omega)).trans ?_
 ·intro i hi s
  simp(disch:=omega) only[↓pq,↓pj,ps,pz,↓reduceIte,aj,ak,ap,aq,au,av,aw,ax,ay,jR_,hi]
  unfold hZ
  grind
 ·intro s
  simp(disch:=omega) only[↓pq,↓pj,ps,pz,↓reduceIte,aj,ak,ap,aq,au,av,aw,ax,ay,jR_,]
 ·unfold nG
  split<;>rfl
theorem ar6(t0 t2:T)(ls:List bC)(a b ar:Int)(h1:ls.length<=1048576):Yi [t0,.l (ls.map dC),t2,ii a,ii b,ii ar]=some [ii (nG ls a b ar)]:=by
 have h:=ub (hZ a b ar) ls
 rw[aq0];simp(disch:=omega) only[↓pq,↓pj,ps,pz,↓reduceIte,aj,ak,ap,aq,au,av,aw,ax,ay,Nd,NE]
 unfold nG
 grind
theorem NF{ls:List bC}{n:Int}(h:eo (mT n) mf ls=true)(a b ar:Int):nG ls a b ar=0↔eF (hZ a b ar) ls<0:=by
 unfold nG
 by_cases h':eF (hZ a b ar) ls<0
 ·simp[h']
 ·rw[if_neg h']
  have hl:=ub (hZ a b ar) ls
  have:=bQ.1 h (eF (hZ a b ar) ls).toNat (by omega)
  rw[show(((eF (hZ a b ar) ls).toNat:Nat):Int)=eF (hZ a b ar) ls by omega]at this
  simp only[bk,mT,aW]at this
  omega
def yS(ok:Int->Int->Bool)(l:List Int):Bool:=
 ln (l.length/2) λk=>ok (gt l (2*k:Int)) (gt l (2*k+1:Int))&&(!decide ((k:Int)>0)||decide (gt l (2*k-2:Int)<gt l (2*k:Int)∨gt l (2*k-2:Int)=gt l (2*k:Int)∧gt l (2*k-1:Int)<gt l (2*k+1:Int)))
theorem ar7(id bf n:Int)(ls:List bC)(t2 t3:T)(hd:List Int)(h1:ls.length<=1048576)(h2:hd.length<=1048576):
  XI [ii id,ii bf,ii n,.l (ls.map dC),t2,.l (hd.map aD),t3]=some [bb (decide (hd.length%2=0)&&yS (λv a=>decide (0<=eF (hZ id v a) ls)) hd)]:=by
 rw[aqE];simp(disch:=omega) only[↓pq,↓pj,ps,pz,↓reduceIte,aj,ak,ap,aq,au,av,aw,ax,ay,jo_,M3]
 have hm:=UA hd.length
 by_cases he:hd.length%2=0
 ·simp only[hm,he,KT,not_true_eq_false,if_false]
  refine(yM (hd.length/2) (λk=>[bb false,ii (2*k)]) (λk=>decide (0<=eF (hZ id (gt hd (2*k:Int)) (gt hd (2*k+1:Int))) ls)&&(!decide ((k:Int)>0)||decide (gt hd (2*k-2:Int)<gt hd (2*k:Int)∨gt hd (2*k-2:Int)=gt hd (2*k:Int)∧gt hd (2*k-1:Int)<gt hd (2*k+1:Int)))) (gf:=some [bb false]) (iR:=some [bb true]) rfl (dR (by omega)) ?_ ?_).trans ?_
  ·intro i hi s
   have be:2*(i:Int)<hd.length:=by omega
   simp(disch:=omega) only[↓pq,↓pj,ps,pz,↓reduceIte,aj,ak,ap,aq,au,av,aw,ax,ay,jo_,be,NE,Int.mul_add]
   grind
  ·intro s
   have be:¬(2*((hd.length/2:Nat):Int)<hd.length):=by omega
   simp(disch:=omega) only[↓pq,↓pj,ps,pz,↓reduceIte,aj,ak,ap,aq,au,av,aw,ax,ay,jo_,be]
  ·rw[j9];unfold yS;simp
 ·have:¬((hd.length%2:Nat):Int)=0:=by omega
  simp only[hm,this,not_false_eq_true,if_true,he,decide_false,Bool.false_and]
theorem ar8(id bf n:Int)(ls:List bC)(t2 t3:T)(hd:List Int)(h1:ls.length<=1048576)(h2:hd.length<=1048576):
  Vi [ii id,ii bf,ii n,.l (ls.map dC),t2,.l (hd.map aD),t3]=some [bb (decide (hd.length%2=0)&&(decide (hd.length<=60)&&yS (λv a=>!decide (nG ls id v a=0)) hd))]:=by
 rw[aoT];simp(disch:=omega) only[↓pq,↓pj,ps,pz,↓reduceIte,aj,ak,ap,aq,au,av,aw,ax,ay,qk_,Mc]
 have hm:=UA hd.length
 by_cases he:hd.length%2=0
 ·have h9:¬((0:Int)=1):=by decide
  simp only[hm,he,KT,h9,if_false]
  by_cases h6:hd.length<=60
  ·have h7:¬((hd.length:Int)>60):=by omega
   simp only[h7,if_false]
   refine(yM (hd.length/2) (λk=>[bb false,ii (2*k)]) (λk=>!decide (nG ls id (gt hd (2*k:Int)) (gt hd (2*k+1:Int))=0)&&(!decide ((k:Int)>0)||decide (gt hd (2*k-2:Int)<gt hd (2*k:Int)∨gt hd (2*k-2:Int)=gt hd (2*k:Int)∧gt hd (2*k-1:Int)<gt hd (2*k+1:Int)))) (gf:=some [bb false]) (iR:=some [bb true]) rfl (dR (by omega)) ?_ ?_).trans ?_
   ·intro i hi s
    have be:2*(i:Int)<hd.length:=by omega
    simp(disch:=omega) only[↓pq,↓pj,ps,pz,↓reduceIte,aj,ak,ap,aq,au,av,aw,ax,ay,qk_,be,kY_,Int.mul_add]
    grind
   ·intro s
    have be:¬(2*((hd.length/2:Nat):Int)<hd.length):=by omega
    simp(disch:=omega) only[↓pq,↓pj,ps,pz,↓reduceIte,aj,ak,ap,aq,au,av,aw,ax,ay,qk_,be]
   ·rw[j9];unfold yS;simp[h6]
  ·have h7:((hd.length:Int)>60):=by omega
   simp[h7,h6]
 ·have h8:((hd.length%2:Nat):Int)=1:=by omega
  simp only[hm,h8,if_true,he,decide_false,Bool.false_and]
def u0(o:Int)(l:List cu):Bool:=
 ln l.length λi=>gZ (gt l i).to 1 6&& !decide ((gt l i).to=o)&&gZ (gt l i).cost 1 1000&&(!decide ((i:Int)>0)||decide ((gt l (i-1:Int)).to<(gt l i).to))
theorem ar9(t0 t1:T)(o:Int)(t3 t4:T)(l:List cu)(t6 t7:T)(h:l.length<=1048576):XL [t0,t1,ii o,t3,t4,.l (l.map fH),t6,t7]=some [bb (u0 o l)]:=by
 rw[aqG];simp(disch:=omega) only[↓pq,↓pj,ps,pz,↓reduceIte,aj,ak,ap,aq,au,av,aw,ax,ay,jQ_,M4]
 refine(yM l.length (λi=>[bb false,ii i]) (λi=>gZ (gt l i).to 1 6&& !decide ((gt l i).to=o)&&gZ (gt l i).cost 1 1000&&(!decide ((i:Int)>0)||decide ((gt l (i-1:Int)).to<(gt l i).to))) (gf:=some [bb false]) (iR:=some [bb true]) rfl (dR h) ?_ ?_).trans (j9 _ _ _ |>.trans (by unfold u0;simp))
 ·intro i hi s
  simp(disch:=omega) only[↓pq,↓pj,ps,pz,↓reduceIte,aj,ak,ap,aq,au,av,aw,ax,ay,jQ_,hi,uu]
  grind
 ·intro s
  simp(disch:=omega) only[↓pq,↓pj,ps,pz,↓reduceIte,aj,ak,ap,aq,au,av,aw,ax,ay,jQ_,]
theorem ar_(t0 t1:T)(o:Int)(t3 t4:T)(l:List cu)(t6 t7:T)(h:l.length<=1048576):Vl [t0,t1,ii o,t3,t4,.l (l.map fH),t6,t7]=some [bb (u0 o l)]:=by
 rw[aoV];simp(disch:=omega) only[↓pq,↓pj,ps,pz,↓reduceIte,aj,ak,ap,aq,au,av,aw,ax,ay,ja_,Md]
 refine(yM l.length (λi=>[bb false,ii i]) (λi=>gZ (gt l i).to 1 6&& !decide ((gt l i).to=o)&&gZ (gt l i).cost 1 1000&&(!decide ((i:Int)>0)||decide ((gt l (i-1:Int)).to<(gt l i).to))) (gf:=some [bb false]) (iR:=some [bb true]) rfl (dR h) ?_ ?_).trans (j9 _ _ _ |>.trans (by unfold u0;simp))
 ·intro i hi s
  simp(disch:=omega) only[↓pq,↓pj,ps,pz,↓reduceIte,aj,ak,ap,aq,au,av,aw,ax,ay,ja_,hi,Gu]
  grind
 ·intro s
  simp(disch:=omega) only[↓pq,↓pj,ps,pz,↓reduceIte,aj,ak,ap,aq,au,av,aw,ax,ay,ja_,]
def fY(r:ah):Bool:=
 gZ r.owner 1 6&&gZ r.seq 1 100000&&
 if r.kind=1 then gZ r.ae 0 2&&decide (r.key=0)&&u0 r.owner r.bq&&decide (r.cost=0)&& !r.gU
 else if r.kind=2 then gZ r.ae 0 2&&gZ r.key 1 6&&decide ((r.bq.length:Int)=0)&&gZ r.cost 0 60000&& !r.gU
 else if r.kind=3 then decide (r.ae=9)&&gZ r.key 1 9&&decide ((r.bq.length:Int)=0)&&(gZ r.cost 1 1000||decide (r.cost=60000))
 else false
theorem ar'(a k o y s:Int)(l:List cu)(c:Int)(f:Bool)(h:l.length<=1048576):XO [ii a,ii k,ii o,ii y,ii s,.l (l.map fH),ii c,bb f]=some [bb (fY ⟨a,k,o,y,s,l,c,f⟩)]:=by
 rw[aqI];simp(disch:=omega) only[↓pq,↓pj,ps,pz,↓reduceIte,aj,ak,ap,aq,au,av,aw,ax,ay,M5,uu,ar9,j9];unfold fY
 grind
theorem asa(a k o y s:Int)(l:List cu)(c:Int)(f:Bool)(h:l.length<=1048576):Vo [ii a,ii k,ii o,ii y,ii s,.l (l.map fH),ii c,bb f]=some [bb (fY ⟨a,k,o,y,s,l,c,f⟩)]:=by
 rw[aoX];simp(disch:=omega) only[↓pq,↓pj,ps,pz,↓reduceIte,aj,ak,ap,aq,au,av,aw,ax,ay,Me,Gu,ar_,j9];unfold fY
 grind
def dP(a b:ah):Bool:=decide (a.ae=b.ae)&&(decide (a.kind=b.kind)&&(decide (a.owner=b.owner)&&decide (a.key=b.key)))
theorem sameKey_iff{a b:ah}:dP a b=true↔a.ae=b.ae∧a.kind=b.kind∧a.owner=b.owner∧a.key=b.key:=by simp[dP]
theorem NG(a k o y:Int)(s:T)(l c f:T)(a' k' o' y':Int)(s' l' c' f':T):FN [ii a,ii k,ii o,ii y,s,l,c,f,ii a',ii k',ii o',ii y',s',l',c',f']=some [bb (dP ⟨a,k,o,y,0,[],0,false⟩ ⟨a',k',o',y',0,[],0,false⟩)]:=by
 rw[aq4];simp(disch:=omega) only[↓pq,↓pj,ps,pz,↓reduceIte,aj,ak,ap,aq,au,av,aw,ax,ay,Ni,j9];unfold dP
 grind
theorem aaA(a k o y:Int)(s:T)(l c f:T)(a' k' o' y':Int)(s' l' c' f':T):Lc [ii a,ii k,ii o,ii y,s,l,c,f,ii a',ii k',ii o',ii y',s',l',c',f']=some [bb (dP ⟨a,k,o,y,0,[],0,false⟩ ⟨a',k',o',y',0,[],0,false⟩)]:=by
 rw[apl];simp(disch:=omega) only[↓pq,↓pj,ps,pz,↓reduceIte,aj,ak,ap,aq,au,av,aw,ax,ay,Mu,j9];unfold dP
 grind
def eQ(a b:ah):Bool:=decide (a.ae<b.ae∨a.ae=b.ae∧(a.kind<b.kind∨a.kind=b.kind∧(a.owner<b.owner∨a.owner=b.owner∧a.key<b.key)))
theorem pg{a b:ah}:eQ a b=true↔a.ae<b.ae∨a.ae=b.ae∧(a.kind<b.kind∨a.kind=b.kind∧(a.owner<b.owner∨a.owner=b.owner∧a.key<b.key)):=by simp[eQ]
theorem NH(a k o y:Int)(s:T)(l c f:T)(a' k' o' y':Int)(s' l' c' f':T):Ln [ii a,ii k,ii o,ii y,s,l,c,f,ii a',ii k',ii o',ii y',s',l',c',f']=some [bb (eQ ⟨a,k,o,y,0,[],0,false⟩ ⟨a',k',o',y',0,[],0,false⟩)]:=by
 rw[aqK];simp(disch:=omega) only[↓pq,↓pj,ps,pz,↓reduceIte,aj,ak,ap,aq,au,av,aw,ax,ay,M6,j9];unfold eQ
 grind
theorem NI(a k o y:Int)(s:T)(l c f:T)(a' k' o' y':Int)(s' l' c' f':T):K6 [ii a,ii k,ii o,ii y,s,l,c,f,ii a',ii k',ii o',ii y',s',l',c',f']=some [bb (eQ ⟨a,k,o,y,0,[],0,false⟩ ⟨a',k',o',y',0,[],0,false⟩)]:=by
 rw[aoZ];simp(disch:=omega) only[↓pq,↓pj,ps,pz,↓reduceIte,aj,ak,ap,aq,au,av,aw,ax,ay,Mf,j9];unfold eQ
 grind
theorem aaB(a b:ah):eQ ⟨a.ae,a.kind,a.owner,a.key,0,[],0,false⟩ ⟨b.ae,b.kind,b.owner,b.key,0,[],0,false⟩=eQ a b:=rfl
def Dc(a b:List cu):Bool:=decide (a.length=b.length)&&ln a.length λi=>decide ((gt a i).to=(gt b i).to)&&decide ((gt a i).cost=(gt b i).cost)
def xi(a b:ah):Bool:=dP a b&&decide (a.cost=b.cost)&&(a.gU==b.gU)&&Dc a.bq b.bq
theorem aaC(a k o y s:Int)(l:List cu)(c:Int)(f:Bool)(a' k' o' y' s':Int)(l':List cu)(c':Int)(f':Bool)(h:l.length<=1048576):Zi [ii a,ii k,ii o,ii y,ii s,.l (l.map fH),ii c,bb f,ii a',ii k',ii o',ii y',ii s',.l (l'.map fH),ii c',bb f']=some [bb (xi ⟨a,k,o,y,s,l,c,f⟩ ⟨a',k',o',y',s',l',c',f'⟩)]:=by
 rw[arD];simp(disch:=omega) only[↓pq,↓pj,ps,pz,↓reduceIte,aj,ak,ap,aq,au,av,aw,ax,ay,PV,Ny,NG]
 by_cases hl:(l.length:Int)=l'.length
 ·rw[show iter _ _ _=(some [bb (Dc l l')]:Option (List T)) from ?_]
  ·rw[show dP ⟨a,k,o,y,0,[],0,false⟩ ⟨a',k',o',y',0,[],0,false⟩=dP ⟨a,k,o,y,s,l,c,f⟩ ⟨a',k',o',y',s',l',c',f'⟩ from rfl]
   simp(disch:=omega) only[↓pq,↓pj,ps,pz,↓reduceIte,aj,ak,ap,aq,au,av,aw,ax,ay,PV,j9,hl];unfold xi;grind
  refine(yM l.length (λi=>[bb false,ii i]) (λi=>decide ((gt l i).to=(gt l' i).to)&&decide ((gt l i).cost=(gt l' i).cost)) (gf:=some [bb false]) (iR:=some [bb true]) rfl (dR h) ?_ ?_).trans (j9 _ _ _ |>.trans (by unfold Dc;simp;omega))
  ·intro i hi s
   simp(disch:=omega) only[↓pq,↓pj,ps,pz,↓reduceIte,aj,ak,ap,aq,au,av,aw,ax,ay,PV,hi]
   grind
  ·intro s
   simp(disch:=omega) only[↓pq,↓pj,ps,pz,↓reduceIte,aj,ak,ap,aq,au,av,aw,ax,ay,PV,]
 ·rw[show dP ⟨a,k,o,y,0,[],0,false⟩ ⟨a',k',o',y',0,[],0,false⟩=dP ⟨a,k,o,y,s,l,c,f⟩ ⟨a',k',o',y',s',l',c',f'⟩ from rfl]
  have:Dc l l'=false:=by unfold Dc;simp;omega
  simp(disch:=omega) only[↓pq,↓pj,ps,pz,↓reduceIte,aj,ak,ap,aq,au,av,aw,ax,ay,PV,j9,hl,not_false_eq_true];unfold xi;grind
theorem aaD(a k o y s:Int)(l:List cu)(c:Int)(f:Bool)(a' k' o' y' s':Int)(l':List cu)(c':Int)(f':Bool)(h:l.length<=1048576):WM [ii a,ii k,ii o,ii y,ii s,.l (l.map fH),ii c,bb f,ii a',ii k',ii o',ii y',ii s',.l (l'.map fH),ii c',bb f']=some [bb (xi ⟨a,k,o,y,s,l,c,f⟩ ⟨a',k',o',y',s',l',c',f'⟩)]:=by
 rw[apY];simp(disch:=omega) only[↓pq,↓pj,ps,pz,↓reduceIte,aj,ak,ap,aq,au,av,aw,ax,ay,PR,ML,aaA]
 by_cases hl:(l.length:Int)=l'.length
 ·rw[show iter _ _ _=(some [bb (Dc l l')]:Option (List T)) from ?_]
  ·rw[show dP ⟨a,k,o,y,0,[],0,false⟩ ⟨a',k',o',y',0,[],0,false⟩=dP ⟨a,k,o,y,s,l,c,f⟩ ⟨a',k',o',y',s',l',c',f'⟩ from rfl]
   simp(disch:=omega) only[↓pq,↓pj,ps,pz,↓reduceIte,aj,ak,ap,aq,au,av,aw,ax,ay,PR,j9,hl];unfold xi;grind
  refine(yM l.length (λi=>[bb false,ii i]) (λi=>decide ((gt l i).to=(gt l' i).to)&&decide ((gt l i).cost=(gt l' i).cost)) (gf:=some [bb false]) (iR:=some [bb true]) rfl (dR h) ?_ ?_).trans (j9 _ _ _ |>.trans (by unfold Dc;simp;omega))
  ·intro i hi s
   simp(disch:=omega) only[↓pq,↓pj,ps,pz,↓reduceIte,aj,ak,ap,aq,au,av,aw,ax,ay,PR,hi]
   grind
  ·intro s
   simp(disch:=omega) only[↓pq,↓pj,ps,pz,↓reduceIte,aj,ak,ap,aq,au,av,aw,ax,ay,PR,]
 ·rw[show dP ⟨a,k,o,y,0,[],0,false⟩ ⟨a',k',o',y',0,[],0,false⟩=dP ⟨a,k,o,y,s,l,c,f⟩ ⟨a',k',o',y',s',l',c',f'⟩ from rfl]
  have:Dc l l'=false:=by unfold Dc;simp;omega
  simp(disch:=omega) only[↓pq,↓pj,ps,pz,↓reduceIte,aj,ak,ap,aq,au,av,aw,ax,ay,PR,j9,hl,not_false_eq_true];unfold xi;grind
def dX(s:List ah):Bool:=decide (s.length<=150)&&eo fY eQ s
def bm(s:List ah):Prop:=∀r∈s,r.bq.length<=1048576
theorem bm.gt{s:List ah}(h:bm s){n:Int}(h0:0<=n)(h1:n<s.length):(Go.Proofs.YtjimmglpkndemaaGreatC.gt s n).bq.length<=1048576:=h _ (kO h0 h1)
theorem aaE{s:List ah}(h:eJ zw s<=1048576):bm s:=λr hr=>by
 have h1:=ahY (f:=zw) hr
 have h2:=yE (f:=vS) r.bq
 have h3:zw r=eJ vS r.bq:=rfl
 omega
theorem aaF(s:List ah)(h:s.length<=1048576)(hn:bm s):Lp [.l (s.map aB)]=some [bb (dX s)]:=by
 rw[aqM];simp(disch:=omega) only[↓pq,↓pj,ps,pz,↓reduceIte,aj,ak,ap,aq,au,av,aw,ax,ay,jh_,M7]
 refine(yM s.length (λi=>[bb false,ii i]) (λi=>fY (gt s i)&&(!decide ((i:Int)>0)||eQ (gt s (i-1:Int)) (gt s i))) (gf:=some [bb false]) (iR:=some [bb (decide (s.length<=150))]) rfl (dR h) ?_ ?_).trans (j9 _ _ _ |>.trans (by unfold dX eo;grind))
 ·intro i hi s1
  have:=hn.gt (n:=i) (by omega) hi
  simp(disch:=omega) only[↓pq,↓pj,ps,pz,↓reduceIte,aj,ak,ap,aq,au,av,aw,ax,ay,jh_,hi,ar',NH,aaB]
  grind
 ·intro s1
  simp(disch:=omega) only[↓pq,↓pj,ps,pz,↓reduceIte,aj,ak,ap,aq,au,av,aw,ax,ay,jh_,]
  simp;omega
theorem Gv(s:List ah)(h:s.length<=1048576)(hn:bm s):Bz [.l (s.map aB)]=some [bb (dX s)]:=by
 rw[ao1];simp(disch:=omega) only[↓pq,↓pj,ps,pz,↓reduceIte,aj,ak,ap,aq,au,av,aw,ax,ay,qZ_,Mg]
 by_cases h1:s.length<=150
 ·have h2:¬((s.length:Int)>150):=by omega
  simp only[h2,if_false]
  refine(yM s.length (λi=>[bb false,ii i]) (λi=>fY (gt s i)&&(!decide ((i:Int)>0)||eQ (gt s (i-1:Int)) (gt s i))) (gf:=some [bb false]) (iR:=some [bb true]) rfl (dR h) ?_ ?_).trans (j9 _ _ _ |>.trans (by unfold dX eo;grind))
  ·intro i hi s1
   have:=hn.gt (n:=i) (by omega) hi
   simp(disch:=omega) only[↓pq,↓pj,ps,pz,↓reduceIte,aj,ak,ap,aq,au,av,aw,ax,ay,qZ_,hi,asa,NI,aaB]
   grind
  ·intro s1
   simp(disch:=omega) only[↓pq,↓pj,ps,pz,↓reduceIte,aj,ak,ap,aq,au,av,aw,ax,ay,qZ_,]
 ·have h2:((s.length:Int)>150):=by omega
  unfold dX
  simp[h2,h1]
theorem aaG(f:Nat->Int):∀(n:Nat),(∀k,k+1<n->f k<f (k+1))->∀k,k<n->f 0+k<=f k
 |n,h,0,_=>by simp
 |n,h,k+1,hk=>by
  have:=aaG f n h k (by omega)
  have:=h k hk
  omega
theorem asb{n:Int}{ls:List bC}(h:eo (mT n) mf ls=true){id:Int}{hd:List Int}(hp:yS (λv a=>decide (0<=eF (hZ id v a) ls)) hd=true):hd.length/2<=18:=by
 have hk:=λk hk=>bQ.1 hp k hk
 have hj:∀k,k<hd.length/2->1<=gt hd (2*k:Int)∧gt hd (2*k:Int)<=6∧0<=gt hd (2*k+1:Int)∧gt hd (2*k+1:Int)<=2:=by
  intro k mZ
  have h1:=hk k mZ
  simp only[bk,decide_eq_true_eq]at h1
  have h2:=uc _ _ h1.1
  have h3:=ub (hZ id (gt hd (2*k:Int)) (gt hd (2*k+1:Int))) ls
  have h4:=bQ.1 h (eF (hZ id (gt hd (2*k:Int)) (gt hd (2*k+1:Int))) ls).toNat (by omega)
  rw[show(((eF (hZ id (gt hd (2*k:Int)) (gt hd (2*k+1:Int))) ls).toNat:Nat):Int)=eF (hZ id (gt hd (2*k:Int)) (gt hd (2*k+1:Int))) ls by omega]at h4
  simp only[hZ,bk,Bool.or_eq_true,beq_iff_eq]at h2
  simp only[bk,mT,aW,decide_eq_true_eq]at h4
  omega
 rcases Nat.eq_zero_or_pos (hd.length/2)with h0|h0
 ·omega
 have:=aaG (λk=>3*gt hd (2*k:Int)+gt hd (2*k+1:Int)) (hd.length/2) (λk mZ=>?_) (hd.length/2-1) (by omega)
 ·have h1:=hj 0 (by omega)
  have h2:=hj (hd.length/2-1) (by omega)
  omega
 ·have h1:=hk (k+1) mZ
  have h2:=hj k (by omega)
  have h3:=hj (k+1) mZ
  simp only[bk,Bool.or_eq_true,decide_eq_true_eq,Bool.not_eq_true',decide_eq_false_iff_not]at h1
  simp only[Bp,Bq,show(2:Int)*((k:Int)+1)=2*k+2 by omega]at h1 h3⊢
  simp only[show(2:Int)*k+2-2=2*k by omega,show(2:Int)*k+2-1=2*k+1 by omega]at h1
  omega
def kK(x:Self):Bool:=xh x.net&&(gZ x.id 1 x.net.n&&(gZ x.bf 0 90&&(decide (x.heard.length%2=0)&&yS (λv a=>decide (0<=eF (hZ x.id v a) x.net.aF)) x.heard&&dX x.store)))
theorem NJ(id bf n:Int)(ls:List bC)(ts:List b_)(hd:List Int)(st:List ah)(h1:ls.length<=1048576)(h2:ts.length<=1048576)(h3:hd.length<=1048576)(h4:st.length<=1048576)(h5:bm st):
  FL [ii id,ii bf,ii n,.l (ls.map dC),.l (ts.map ef),.l (hd.map aD),.l (st.map aB)]=some [bb (kK ⟨id,bf,⟨n,ls,ts⟩,hd,st⟩)]:=by
 rw[aqO];simp(disch:=omega) only[↓pq,↓pj,ps,pz,↓reduceIte,aj,ak,ap,aq,au,av,aw,ax,ay,M8,ar0,uu,ar7,aaF _ h4 h5,j9];unfold kK
 grind
theorem NK(id bf n:Int)(ls:List bC)(ts:List b_)(hd:List Int)(st:List ah)(h1:ls.length<=1048576)(h2:ts.length<=1048576)(h3:hd.length<=1048576)(h4:st.length<=1048576)(h5:bm st):
  FD [ii id,ii bf,ii n,.l (ls.map dC),.l (ts.map ef),.l (hd.map aD),.l (st.map aB)]=some [bb (kK ⟨id,bf,⟨n,ls,ts⟩,hd,st⟩)]:=by
 rw[ao3];simp(disch:=omega) only[↓pq,↓pj,ps,pz,↓reduceIte,aj,ak,ap,aq,au,av,aw,ax,ay,Mh,arZ,Gu,ar8,Gv _ h4 h5,j9]
 have key:xh ⟨n,ls,ts⟩=true->(decide (hd.length<=60)&&yS (λv a=>!decide (nG ls id v a=0)) hd)=yS (λv a=>decide (0<=eF (hZ id v a) ls)) hd:=by
  intro hn
  have hl:eo (mT n) mf ls=true:=by simp only[xh,bk]at hn;exact hn.1.2
  have he:(λv a=>!decide (nG ls id v a=0))=λv a=>decide (0<=eF (hZ id v a) ls):=by
   funext v a
   have:=NF hl id v a
   by_cases hc:nG ls id v a=0<;>simp[hc]<;>omega
  rw[he]
  cases hp:yS (λv a=>decide (0<=eF (hZ id v a) ls)) hd with
  |false=>simp
  |true=>have:=asb hl hp;simp;omega
 unfold kK
 grind
def yT(a b:List Int):Bool:=decide ((a.length:Int)=b.length)&&ln a.length λi=>decide (gt a i=gt b i)
theorem iX{a b:List Int}:yT a b=true↔a=b:=by
 simp only[yT,bk,decide_eq_true_eq,bQ]
 constructor
 ·rintro⟨h1,h2⟩
  refine List.ext_getElem (by omega) λi hi hj=>?_
  have:=h2 i hi
  rwa[d_ hi,d_ hj]at this
 ·rintro rfl
  exact⟨rfl,λ_ _=>rfl⟩
theorem asc(a b:List Int)(h:a.length<=1048576):X6 [.l (a.map aD),.l (b.map aD)]=some [bb (yT a b)]:=by
 rw[aqU];simp(disch:=omega) only[↓pq,↓pj,ps,pz,↓reduceIte,aj,ak,ap,aq,au,av,aw,ax,ay,qm_,Na]
 by_cases hl:(a.length:Int)=b.length
 ·simp only[hl,not_true_eq_false,if_false]
  refine(yM a.length (λi=>[bb false,ii i]) (λi=>decide (gt a i=gt b i)) (gf:=some [bb false]) (iR:=some [bb true]) rfl (dR h) ?_ ?_).trans (j9 _ _ _ |>.trans (by unfold yT;simp[hl]))
  ·intro i hi s
   have dl:=hl▸hi
   simp(disch:=omega) only[↓pq,↓pj,ps,pz,↓reduceIte,aj,ak,ap,aq,au,av,aw,ax,ay,qm_,hi,dl]
   grind
  ·intro s
   simp(disch:=omega) only[↓pq,↓pj,ps,pz,↓reduceIte,aj,ak,ap,aq,au,av,aw,ax,ay,qm_,hl]
 ·unfold yT;simp[hl]
theorem asd(a b:List Int)(h:a.length<=1048576):VB [.l (a.map aD),.l (b.map aD)]=some [bb (yT a b)]:=by
 rw[ao7];simp(disch:=omega) only[↓pq,↓pj,ps,pz,↓reduceIte,aj,ak,ap,aq,au,av,aw,ax,ay,v0_,Mk]
 by_cases hl:(a.length:Int)=b.length
 ·simp only[hl,not_true_eq_false,if_false]
  refine(yM a.length (λi=>[bb false,ii i]) (λi=>decide (gt a i=gt b i)) (gf:=some [bb false]) (iR:=some [bb true]) rfl (dR h) ?_ ?_).trans (j9 _ _ _ |>.trans (by unfold yT;simp[hl]))
  ·intro i hi s
   have dl:=hl▸hi
   simp(disch:=omega) only[↓pq,↓pj,ps,pz,↓reduceIte,aj,ak,ap,aq,au,av,aw,ax,ay,v0_,hi,dl]
   grind
  ·intro s
   simp(disch:=omega) only[↓pq,↓pj,ps,pz,↓reduceIte,aj,ak,ap,aq,au,av,aw,ax,ay,v0_,hl]
 ·unfold yT;simp[hl]
def B3(c:List Int)(e:c_):List Int:=if e.both=true then c++[e.node,e.ae]else c
def lE(l:List c_):List Int:=l.foldl B3 []
theorem NL(c:List Int)(e:c_):(B3 c e).length<=c.length+2:=by
 unfold B3;split<;>simp
theorem jt_(l:List c_):(lE l).length<=2*l.length:=
 KW (Inv:=λi (c:List Int)=>c.length<=2*i) (by simp) λi c hi hc=>by have:=NL c (gt l i);omega
theorem aaI(l:List c_)(h:l.length<=1048576):Lr [.l (l.map bS)]=some [.l ((lE l).map aD)]:=by
 rw[aqS];simp(disch:=omega) only[↓pq,↓pj,ps,pz,↓reduceIte,aj,ak,ap,aq,au,av,aw,ax,ay,q8_,M_]
 refine jc l (λi c=>[.l (c.map aD),ii i]) B3 (λc=>some [T.l (c.map aD)]) [] (λi c=>c.length<=2*i) rfl (dR h) (by simp) ?_ ?_
 ·intro i c hi hc
  have hl:=NL c (gt l i)
  refine⟨by omega,λs=>?_⟩
  simp(disch:=omega) only[↓pq,↓pj,ps,pz,↓reduceIte,aj,ak,ap,aq,au,av,aw,ax,ay,q8_,hi]
  unfold B3
  split<;>rfl
 ·intro c s hc
  simp(disch:=omega) only[↓pq,↓pj,ps,pz,↓reduceIte,aj,ak,ap,aq,au,av,aw,ax,ay,q8_,]
theorem aaJ(l:List c_)(h:l.length<=1048576):K8 [.l (l.map bS)]=some [.l ((lE l).map aD)]:=by
 rw[ao5];simp(disch:=omega) only[↓pq,↓pj,ps,pz,↓reduceIte,aj,ak,ap,aq,au,av,aw,ax,ay,qs_,Mi]
 refine jc l (λi c=>[.l (c.map aD),ii i]) B3 (λc=>some [T.l (c.map aD)]) [] (λi c=>c.length<=2*i) rfl (dR h) (by simp) ?_ ?_
 ·intro i c hi hc
  have hl:=NL c (gt l i)
  refine⟨by omega,λs=>?_⟩
  simp(disch:=omega) only[↓pq,↓pj,ps,pz,↓reduceIte,aj,ak,ap,aq,au,av,aw,ax,ay,qs_,hi]
  unfold B3
  split<;>rfl
 ·intro c s hc
  simp(disch:=omega) only[↓pq,↓pj,ps,pz,↓reduceIte,aj,ak,ap,aq,au,av,aw,ax,ay,qs_,]
def nH(ls:List bC)(id:Int)(v:Nat)(c:List c_)(a:Nat):List c_:=if 0<=eF (hZ id (v+1) a) ls then c++[⟨v+1,a,0,false⟩]else c
def xj(ls:List bC)(id:Int)(c:List c_)(v:Nat):List c_:=(List.range 3).foldl (nH ls id v) c
def pu(ls:List bC)(id n:Int):List c_:=(List.range n.toNat).foldl (xj ls id) []
theorem jM_(ls:List bC)(id:Int)(v:Nat)(c:List c_)(a:Nat):(nH ls id v c a).length<=c.length+1:=by
 unfold nH;split<;>simp
theorem NM(ls:List bC)(id:Int)(c:List c_)(v:Nat):(xj ls id c v).length<=c.length+3:=by
 unfold xj
 have h1:=jM_ ls id v c 0
 have h2:=jM_ ls id v (nH ls id v c 0) 1
 have h3:=jM_ ls id v (nH ls id v (nH ls id v c 0) 1) 2
 show(nH ls id v (nH ls id v (nH ls id v c 0) 1) 2).length<=_
 omega
theorem ase(n:Int)(ls:List bC)(t2:T)(id:Int)(h:n<=6)(h1:ls.length<=1048576):X0 [ii n,.l (ls.map dC),t2,ii id]=some [.l ((pu ls id n).map bS)]:=by
 rw[aqQ];simp only[M9]
 refine ud n.toNat (λi c=>[.l (c.map bS),ii (i+1)]) (xj ls id) (λc=>some [T.l (c.map bS)]) [] (λi c=>c.length<=3*i) rfl (dR (by omega)) (by simp) ?_ ?_
 ·intro i c hi hc
  have hl:=NM ls id c i
  refine⟨by omega,λs=>?_⟩
  have dl:(i:Int)+1<=n:=by omega
  simp(disch:=omega) only[↓pq,↓pj,ps,pz,↓reduceIte,aj,ak,ap,aq,au,av,aw,ax,ay,u4_,u9_,dl]
  refine ud 3 (λa c=>[.l (c.map bS),ii a]) (nH ls id i) (λc=>s [T.l (c.map bS),ii ((i+1:Nat)+1)]) c (λa c=>c.length<=3*i+a) rfl (by unfold rounds;omega) (by omega) ?_ ?_
  ·intro a c ha hc
   have hl:=jM_ ls id i c a
   refine⟨by omega,λs=>?_⟩
   have v8:(a:Int)<=2:=by omega
   simp(disch:=omega) only[↓pq,↓pj,ps,pz,↓reduceIte,aj,ak,ap,aq,au,av,aw,ax,ay,u4_,u9_,v8,NE]
   unfold nH
   split<;>rfl
  ·intro c s' hc
   simp(disch:=omega) only[↓pq,↓pj,ps,pz,↓reduceIte,aj,ak,ap,aq,au,av,aw,ax,ay,u4_,u9_,]
 ·intro c s hc
  have dl:¬((n.toNat:Int)+1<=n):=by omega
  simp(disch:=omega) only[↓pq,↓pj,ps,pz,↓reduceIte,aj,ak,ap,aq,au,av,aw,ax,ay,u4_,u9_,dl]
def yU(iv e:c_):Bool:=decide (e.node=iv.node)&&(decide (e.ae=iv.ae)&&(gZ e.left 0 3&& !(e.both&&decide (e.left=0))))
def qz(dD iv:List c_):Bool:=decide (iv.length<=dD.length)&&ln iv.length λi=>yU (gt iv i) (gt dD i)
def zK(dD iv:List c_):Bool:=decide ((iv.length:Int)=dD.length)&&ln dD.length λi=>yU (gt iv i) (gt dD i)
def lF(x:Node):Bool:=kK x.self&&(zK x.dD (pu x.self.net.aF x.self.id x.self.net.n)&&yT (lE x.dD) x.self.heard)
theorem aaL{x:Self}(h:kK x=true):1<=x.net.n∧x.net.n<=6:=by
 simp only[kK,xh,bk,aW]at h
 exact h.1.1.1.1.1
theorem NN(ls:List bC)(id n:Int)(h:n<=6):(pu ls id n).length<=18:=by
 have:=KW (l:=List.range n.toNat) (g:=xj ls id) (c:=[]) (Inv:=λi (c:List c_)=>c.length<=3*i) (by simp) (λi c hi hc=>by have:=NM ls id c (gt (List.range n.toNat) i);omega)
 simp only[List.length_range]at this
 unfold pu
 omega
theorem asf(id bf n:Int)(ls:List bC)(ts:List b_)(hd:List Int)(st:List ah)(es:List c_)(h1:ls.length<=1048576)(h2:ts.length<=1048576)(h3:hd.length<=1048576)(h4:st.length<=1048576)(h5:bm st)(h6:es.length<=1048576):
  X9 [ii id,ii bf,ii n,.l (ls.map dC),.l (ts.map ef),.l (hd.map aD),.l (st.map aB),.l (es.map bS)]=some [bb (lF ⟨⟨id,bf,⟨n,ls,ts⟩,hd,st⟩,es⟩)]:=by
 rw[aqW];simp(disch:=omega) only[↓pq,↓pj,ps,pz,↓reduceIte,aj,ak,ap,aq,au,av,aw,ax,ay,u5_,Nb,NJ _ _ _ _ _ _ _ h1 h2 h3 h4 h5]
 cases hs:kK ⟨id,bf,⟨n,ls,ts⟩,hd,st⟩with
 |false=>simp[lF,hs]
 |true=>
  have hn:1<=n∧n<=6:=aaL hs
  have hw:=NN ls id n hn.2
  have hb:=jt_ es
  simp only[not_true_eq_false,if_false]
  simp(disch:=omega) only[↓pq,↓pj,ps,pz,↓reduceIte,aj,ak,ap,aq,au,av,aw,ax,ay,u5_,ase n ls _ id hn.2 h1]
  by_cases hl:((pu ls id n).length:Int)=es.length
  ·simp only[hl,not_true_eq_false,if_false]
   refine(yM es.length (λi=>[bb false,ii i]) (λi=>yU (gt (pu ls id n) i) (gt es i)) (gf:=some [bb false]) (iR:=some [bb (yT (lE es) hd)]) rfl (dR h6) ?_ ?_).trans (j9 _ _ _ |>.trans ?_)
   ·intro i hi s
    have dl:=hl▸hi
    simp(disch:=omega) only[↓pq,↓pj,ps,pz,↓reduceIte,aj,ak,ap,aq,au,av,aw,ax,ay,u5_,hi,uu]
    unfold yU
    grind
   ·intro s
    simp(disch:=omega) only[↓pq,↓pj,ps,pz,↓reduceIte,aj,ak,ap,aq,au,av,aw,ax,ay,u5_,aaI _ h6,asc]
   ·unfold lF zK
    simp[hs,hl]
  ·simp only[hl,not_false_eq_true,if_true]
   simp[lF,zK,hl]
theorem Gw{ls:List bC}{id:Int}{v:Nat}{es c:List c_}{a:Nat}(h:qz es (nH ls id v c a)=true):qz es c=true:=by
 unfold nH at h
 split at h
 ·simp only[qz,bk,decide_eq_true_eq,List.length_append,List.length_singleton,bQ]at h⊢
  refine⟨by omega,λi hi=>?_⟩
  have:=h.2 i (by omega)
  rwa[d_ (by simp;omega),List.getElem_append_left hi,<-d_ hi]at this
 ·exact h
theorem asg{ls:List bC}{id:Int}{v:Nat}{es c:List c_}(h:qz es (xj ls id c v)=true):qz es c=true:=
 Gw (Gw (Gw (show qz es (nH ls id v (nH ls id v (nH ls id v c 0) 1) 2)=true from h)))
theorem ash{es c:List c_}{w:c_}(hc:qz es c=true):qz es (c++[w])=(decide (c.length<es.length)&&yU w (gt es c.length)):=by
 simp only[qz,bk,decide_eq_true_eq,bQ]at hc
 rw[Bool.eq_iff_iff]
 simp only[qz,bk,decide_eq_true_eq,List.length_append,List.length_singleton,bQ]
 constructor
 ·rintro⟨h1,h2⟩
  refine⟨by omega,?_⟩
  have:=h2 c.length (by omega)
  rwa[d_ (by simp),List.getElem_append_right (Nat.le_refl _),List.getElem_singleton]at this
 ·rintro⟨h1,h2⟩
  refine⟨by omega,λi hi=>?_⟩
  rcases Nat.lt_or_ge i c.length with h|h
  ·rw[d_ (by simp;omega),List.getElem_append_left h,<-d_ h]
   exact hc.2 i h
  ·have:i=c.length:=by omega
   subst this
   rwa[d_ (by simp),List.getElem_append_right (Nat.le_refl _),List.getElem_singleton]
theorem asi(id bf n:Int)(ls:List bC)(ts:List b_)(hd:List Int)(st:List ah)(es:List c_)(h1:ls.length<=1048576)(h2:ts.length<=1048576)(h3:hd.length<=1048576)(h4:st.length<=1048576)(h5:bm st)(h6:es.length<=1048576):
  VE [ii id,ii bf,ii n,.l (ls.map dC),.l (ts.map ef),.l (hd.map aD),.l (st.map aB),.l (es.map bS)]=some [bb (lF ⟨⟨id,bf,⟨n,ls,ts⟩,hd,st⟩,es⟩)]:=by
 rw[ao9];simp(disch:=omega) only[↓pq,↓pj,ps,pz,↓reduceIte,aj,ak,ap,aq,au,av,aw,ax,ay,PN,PO,Ml,NK _ _ _ _ _ _ _ h1 h2 h3 h4 h5]
 cases hs:kK ⟨id,bf,⟨n,ls,ts⟩,hd,st⟩with
 |false=>simp[lF,hs]
 |true=>
  have hn:1<=n∧n<=6:=aaL hs
  have hw:=NN ls id n hn.2
  have hb:=jt_ es
  have hz:eo (mT n) mf ls=true:=by simp only[kK,xh,bk]at hs;exact hs.1.1.2
  simp only[not_true_eq_false,if_false]
  have Ih:qz es []=true:=by simp[qz,ln]
  refine(KX n.toNat (λi (c:List c_)=>[bb false,ii c.length,ii (i+1)]) (λi c=>qz es (xj ls id c i)) (xj ls id) (λc=>if(c.length:Int)=es.length then some [bb (yT hd (lE es))]else some [bb false]) (gf:=some [bb false]) [] (λi c=>qz es c=true∧c.length<=3*i) rfl (dR (by omega)) ⟨Ih,by simp⟩ ?_ ?_).trans ?_
  ·intro i c hi hc
   refine⟨λh=>⟨h,by have:=NM ls id c i;omega⟩,λs=>?_⟩
   have dl:(i:Int)+1<=n:=by omega
   simp(disch:=omega) only[↓pq,↓pj,ps,pz,↓reduceIte,aj,ak,ap,aq,au,av,aw,ax,ay,PN,PO,dl]
   refine(KX 3 (λa (c:List c_)=>[bb false,ii c.length,ii a]) (λa c=>qz es (nH ls id i c a)) (nH ls id i) (λc=>s [bb false,ii c.length,ii ((i+1:Nat)+1)]) (gf:=some [bb false]) c (λa c=>qz es c=true∧c.length<=3*i+a) rfl (by unfold rounds;omega) ⟨hc.1,by omega⟩ ?_ ?_).trans ?_
   ·intro a c ha hc
    refine⟨λh=>⟨h,by have:=jM_ ls id i c a;omega⟩,λs=>?_⟩
    have v8:(a:Int)<=2:=by omega
    have O2:=NF hz id (i+1) a
    simp(disch:=omega) only[↓pq,↓pj,ps,pz,↓reduceIte,aj,ak,ap,aq,au,av,aw,ax,ay,PN,PO,v8,kY_,Gu]
    unfold nH
    by_cases hf:0<=eF (hZ id (i+1) a) ls
    ·have dk:¬(nG ls id (i+1) a=0):=by omega
     have hlen:=ash (w:=⟨(i:Int)+1,a,0,false⟩) hc.1
     simp only[hf,if_true,hlen,dk,if_false,List.length_append,List.length_singleton,Bp,Bq]
     have Ri:((c.length:Int)>=es.length)=¬(c.length<es.length):=by simp only[eq_iff_iff];omega
     unfold yU
     grind
    ·have dk:nG ls id (i+1) a=0:=by omega
     simp only[hf,if_false,hc.1,if_true,dk]
   ·intro c s' hc
    simp(disch:=omega) only[↓pq,↓pj,ps,pz,↓reduceIte,aj,ak,ap,aq,au,av,aw,ax,ay,PN,PO,]
   ·rw[UC (qz es) (λc i=>Gw) (λi c _ _=>rfl) hc.1]
    have e:(List.range 3).foldl (nH ls id i) c=xj ls id c i:=rfl
    rw[e]
    cases hp:qz es (xj ls id c i)with
    |true=>simp only[if_true,Bp,Bq]
    |false=>simp
  ·intro c s hc
   have dl:¬((n.toNat:Int)+1<=n):=by omega
   simp(disch:=omega) only[↓pq,↓pj,ps,pz,↓reduceIte,aj,ak,ap,aq,au,av,aw,ax,ay,PN,PO,dl,aaJ _ h6,asd]
  ·rw[UC (qz es) (λc i=>asg) (λi c _ _=>rfl) Ih]
   have mO:yT hd (lE es)=yT (lE es) hd:=by rw[Bool.eq_iff_iff,iX,iX];exact eq_comm
   have hk:zK es (pu ls id n)=(qz es (pu ls id n)&&decide (((pu ls id n).length:Int)=es.length)):=by
    unfold zK qz
    by_cases hl:((pu ls id n).length:Int)=es.length
    ·rw[show es.length=(pu ls id n).length by omega];simp
    ·simp[hl]
   have e:(List.range n.toNat).foldl (xj ls id) []=pu ls id n:=rfl
   rw[e,mO]
   unfold lF
   simp only[hs,hk,Bool.true_and]
   by_cases hp:qz es (pu ls id n)=true
   ·by_cases hl:((pu ls id n).length:Int)=es.length<;>simp[hp,hl]
   ·simp[hp]
structure aaM (ns:List Node):Prop where
 len:∀n∈ns,n.self.store.length<=1048576
 bq:∀n∈ns,bm n.self.store
 heard:∀n∈ns,n.self.heard.length<=1048576
theorem q4_(a k o y s:Int)(l:List cu)(c:Int)(f:Bool)(h:l.length<=1048576):FI [ii a,ii k,ii o,ii y,ii s,.l (l.map fH),ii c,bb f]=some [ii a,ii k,ii o,ii y,ii s,.l (l.map fH),ii c,bb f]:=by
 rw[aqj];simp(disch:=omega) only[↓pq,↓pj,ps,pz,↓reduceIte,aj,ak,ap,aq,au,av,aw,ax,ay,MS]
theorem Gx(a k o y s:Int)(l:List cu)(c:Int)(f:Bool)(h:l.length<=1048576):Bv [ii a,ii k,ii o,ii y,ii s,.l (l.map fH),ii c,bb f]=some [ii a,ii k,ii o,ii y,ii s,.l (l.map fH),ii c,bb f]:=by
 rw[aoz];simp(disch:=omega) only[↓pq,↓pj,ps,pz,↓reduceIte,aj,ak,ap,aq,au,av,aw,ax,ay,L4]
def B4(ar:Int)(r:ah):Bool:=r.ae==ar||r.ae==9
def scope(s:List ah)(ar:Int):List ah:=s.filter (B4 ar)
theorem asj(s:List ah)(ar:Int)(h:s.length<=1048576)(hn:bm s):BQ [.l (s.map aB),ii ar]=some [.l ((scope s ar).map aB)]:=by
 rw[arM];simp(disch:=omega) only[↓pq,↓pj,ps,pz,↓reduceIte,aj,ak,ap,aq,au,av,aw,ax,ay,ks_,NB]
 refine(jc s (λi c=>[.l (c.map aB),ii i]) (λc a=>if B4 ar a=true then c++[a]else c) (λc=>some [T.l (c.map aB)]) [] (λi c=>c.length<=i) rfl (dR h) (by simp) ?_ ?_).trans (by rw[KY,List.nil_append,<-scope])
 ·intro i c hi hc
  refine⟨by split<;>(try simp)<;>omega,λk=>?_⟩
  have:=hn.gt (n:=i) (by omega) hi
  simp(disch:=omega) only[↓pq,↓pj,ps,pz,↓reduceIte,aj,ak,ap,aq,au,av,aw,ax,ay,ks_,hi,q4_]
  unfold B4
  grind
 ·intro c k hc
  simp(disch:=omega) only[↓pq,↓pj,ps,pz,↓reduceIte,aj,ak,ap,aq,au,av,aw,ax,ay,ks_,]
theorem asl(s:List ah)(ar:Int)(h:s.length<=1048576)(hn:bm s):BD [.l (s.map aB),ii ar]=some [.l ((scope s ar).map aB)]:=by
 rw[ap7];simp(disch:=omega) only[↓pq,↓pj,ps,pz,↓reduceIte,aj,ak,ap,aq,au,av,aw,ax,ay,kC_,MN]
 refine(jc s (λi c=>[.l (c.map aB),ii i]) (λc a=>if B4 ar a=true then c++[a]else c) (λc=>some [T.l (c.map aB)]) [] (λi c=>c.length<=i) rfl (dR h) (by simp) ?_ ?_).trans (by rw[KY,List.nil_append,<-scope])
 ·intro i c hi hc
  refine⟨by split<;>(try simp)<;>omega,λk=>?_⟩
  have:=hn.gt (n:=i) (by omega) hi
  simp(disch:=omega) only[↓pq,↓pj,ps,pz,↓reduceIte,aj,ak,ap,aq,au,av,aw,ax,ay,kC_,hi,Gx]
  unfold B4
  grind
 ·intro c k hc
  simp(disch:=omega) only[↓pq,↓pj,ps,pz,↓reduceIte,aj,ak,ap,aq,au,av,aw,ax,ay,kC_,]
theorem NO(s:List ah)(a k o y:Int)(t4 t5 t6 t7:T)(h:s.length<=1048576):yN [.l (s.map aB),ii a,ii k,ii o,ii y,t4,t5,t6,t7]=some [ii (eF (λx=>dP x ⟨a,k,o,y,0,[],0,false⟩) s)]:=by
 rw[arc];simp(disch:=omega) only[↓pq,↓pj,ps,pz,↓reduceIte,aj,ak,ap,aq,au,av,aw,ax,ay,kI_,Np]
 refine(H0 s (λi=>[ii 0,ii i]) (λx=>dP x ⟨a,k,o,y,0,[],0,false⟩) (λi=>some [ii i]) (lp:=some [ii (-1)]) rfl (dR h) ?_ ?_).trans (ND _ _)
 ·intro i hi q
  simp(disch:=omega) only[↓pq,↓pj,ps,pz,↓reduceIte,aj,ak,ap,aq,au,av,aw,ax,ay,kI_,hi,NG]
  rfl
 ·intro q
  simp(disch:=omega) only[↓pq,↓pj,ps,pz,↓reduceIte,aj,ak,ap,aq,au,av,aw,ax,ay,kI_,]
theorem NP(s:List ah)(a k o y:Int)(t4 t5 t6 t7:T)(h:s.length<=1048576):FE [.l (s.map aB),ii a,ii k,ii o,ii y,t4,t5,t6,t7]=some [ii (eF (λx=>dP x ⟨a,k,o,y,0,[],0,false⟩) s)]:=by
 rw[apn];simp(disch:=omega) only[↓pq,↓pj,ps,pz,↓reduceIte,aj,ak,ap,aq,au,av,aw,ax,ay,kX_,Mw]
 refine(H0 s (λi=>[ii 0,ii i]) (λx=>dP x ⟨a,k,o,y,0,[],0,false⟩) (λi=>some [ii i]) (lp:=some [ii (-1)]) rfl (dR h) ?_ ?_).trans (ND _ _)
 ·intro i hi q
  simp(disch:=omega) only[↓pq,↓pj,ps,pz,↓reduceIte,aj,ak,ap,aq,au,av,aw,ax,ay,kX_,hi,aaA]
  rfl
 ·intro q
  simp(disch:=omega) only[↓pq,↓pj,ps,pz,↓reduceIte,aj,ak,ap,aq,au,av,aw,ax,ay,kX_,]
def bG(s:List ah)(r:ah):Int:=eF (λx=>dP x r) s
theorem B5(s:List ah)(r:ah):eF (λx=>dP x ⟨r.ae,r.kind,r.owner,r.key,0,[],0,false⟩) s=bG s r:=rfl
theorem NQ(s:List ah)(h:s.length<=1048576)(hn:bm s):FJ [.l (s.map aB)]=some [.l (s.map aB)]:=by
 rw[aqm];simp(disch:=omega) only[↓pq,↓pj,ps,pz,↓reduceIte,aj,ak,ap,aq,au,av,aw,ax,ay,vY_,k2_]
 refine(jc s (λi c=>[.l (c.map aB),ii i]) (λc a=>c++[id a]) (λc=>some [T.l (c.map aB)]) [] (λi c=>c.length<=i) rfl (dR h) (by simp) ?_ ?_).trans (show some [T.l ((s.foldl (λc a=>c++[id a]) []).map aB)]=some [T.l (s.map aB)] by rw[foldl_map];simp)
 ·intro i c hi hc
  refine⟨by simp;omega,λk=>?_⟩
  have:=hn.gt (n:=i) (by omega) hi
  simp(disch:=omega) only[↓pq,↓pj,ps,pz,↓reduceIte,aj,ak,ap,aq,au,av,aw,ax,ay,vY_,hi,q4_]
  rfl
 ·intro c k hc
  simp(disch:=omega) only[↓pq,↓pj,ps,pz,↓reduceIte,aj,ak,ap,aq,au,av,aw,ax,ay,vY_,]
theorem PW(s:List ah)(h:s.length<=1048576)(hn:bm s):C5 [.l (s.map aB)]=some [.l (s.map aB)]:=by
 rw[aoC];simp(disch:=omega) only[↓pq,↓pj,ps,pz,↓reduceIte,aj,ak,ap,aq,au,av,aw,ax,ay,v8_,k7_]
 refine(jc s (λi c=>[.l (c.map aB),ii i]) (λc a=>c++[id a]) (λc=>some [T.l (c.map aB)]) [] (λi c=>c.length<=i) rfl (dR h) (by simp) ?_ ?_).trans (show some [T.l ((s.foldl (λc a=>c++[id a]) []).map aB)]=some [T.l (s.map aB)] by rw[foldl_map];simp)
 ·intro i c hi hc
  refine⟨by simp;omega,λk=>?_⟩
  have:=hn.gt (n:=i) (by omega) hi
  simp(disch:=omega) only[↓pq,↓pj,ps,pz,↓reduceIte,aj,ak,ap,aq,au,av,aw,ax,ay,v8_,hi,Gx]
  rfl
 ·intro c k hc
  simp(disch:=omega) only[↓pq,↓pj,ps,pz,↓reduceIte,aj,ak,ap,aq,au,av,aw,ax,ay,v8_,]
def dA(s:List ah)(r:ah):List ah:=s.filter (λx=>eQ x r)++([r]++s.filter (λx=>eQ r x))
abbrev iG(s:List ah):Prop:=s.Pairwise λa b=>eQ a b=true
theorem Gy{a b c:ah}(h:eQ a b=true)(h':eQ b c=true):eQ a c=true:=by rw[pg]at *;omega
theorem Gz(a:ah):eQ a a=false:=by
 cases h:eQ a a with
 |false=>rfl
 |true=>rw[pg]at h;omega
theorem B6{a b:ah}(h:eQ a b=true):eQ b a=false:=by
 cases h':eQ b a with
 |false=>rfl
 |true=>rw[pg]at *;omega
theorem ut_{a b:ah}(h:eQ a b=true):dP a b=false:=by
 cases h':dP a b with
 |false=>rfl
 |true=>rw[pg]at h;rw[sameKey_iff]at h';omega
theorem aaO{a b:ah}(h:eQ a b=false)(h':dP a b=false):eQ b a=true:=by
 have h1:¬(eQ a b=true):=by rw[h];decide
 have h2:¬(dP a b=true):=by rw[h'];decide
 rw[pg]at h1⊢
 rw[sameKey_iff]at h2
 omega
theorem aaP{a b r:ah}(h:dP a b=true):eQ a r=eQ b r∧eQ r a=eQ r b:=by
 rw[sameKey_iff]at h
 constructor
 ·rw[Bool.eq_iff_iff,pg,pg];omega
 ·rw[Bool.eq_iff_iff,pg,pg];omega
theorem asm{s:List ah}(h:eo fY eQ s=true):iG s:=by
 have h:=bQ.1 h
 rw[iG,List.pairwise_iff_getElem]
 have step:∀i,(hi:i+1<s.length)->eQ s[i] s[i+1]=true:=by
  intro i hi
  have:=h (i+1) hi
  simp only[bk,Bool.or_eq_true,Bool.not_eq_true',decide_eq_false_iff_not]at this
  have h2:=this.2.resolve_left (by omega)
  rwa[show(((i+1:Nat):Int)-1)=(i:Int) by omega,d_ (by omega),d_ hi]at h2
 intro i j hi hj qM
 obtain⟨d,rfl⟩:∃d,j=i+1+d:=⟨j-i-1,by omega⟩
 clear qM
 induction d with
 |zero=>exact step i (by omega)
 |succ d ih=>exact Gy (ih (by omega)) (step (i+1+d) (by omega))
theorem B7{s:List ah}(h:dX s=true):iG s:=by
 simp only[dX,bk]at h;exact asm h.2
theorem Ii{s:List ah}(h:iG s)(r:ah):iG (dA s r):=by
 unfold dA iG
 rw[List.pairwise_append]
 refine⟨h.filter _,?_,?_⟩
 ·rw[List.pairwise_append]
  refine⟨by simp,h.filter _,?_⟩
  intro a ha b hb
  rw[List.mem_singleton]at ha
  subst ha
  exact(List.mem_filter.1 hb).2
 ·intro a ha b hb
  have ha:=(List.mem_filter.1 ha).2
  rcases List.mem_append.1 hb with hb|hb
  ·rw[List.mem_singleton]at hb
   subst hb;exact ha
  ·exact Gy ha (List.mem_filter.1 hb).2
theorem GA(s:List ah)(r:ah):(dA s r).length<=s.length+1:=by
 unfold dA
 have:(s.filter (λx=>eQ x r)).length+(s.filter (λx=>eQ r x)).length<=s.length:=by
  induction s with
  |nil=>simp
  |cons x s ih=>
   simp only[List.filter_cons]
   cases h:eQ x r with
   |true=>simp[B6 h];omega
   |false=>cases h':eQ r x<;>simp<;>omega
 simp;omega
theorem B8{s:List ah}{r x:ah}(h:x∈dA s r):x=r∨x∈s:=by
 unfold dA at h
 rcases List.mem_append.1 h with h|h
 ·exact .inr (List.mem_filter.1 h).1
 ·rcases List.mem_append.1 h with h|h
  ·exact .inl (List.mem_singleton.1 h)
  ·exact .inr (List.mem_filter.1 h).1
theorem aaQ{s:List ah}{r:ah}(h:bm s)(hr:r.bq.length<=1048576):bm (dA s r):=λx hx=>by
 rcases B8 hx with rfl|hx
 ·exact hr
 ·exact h x hx
def iY(s:List ah)(r:ah):Nat:=(s.filter (λx=>eQ x r)).length
theorem asn(s:List ah)(r:ah):iY s r<=s.length:=List.length_filter_le _ _
theorem aaR{s:List ah}(h:iG s)(r:ah):s.take (iY s r)=s.filter (λx=>eQ x r)∧(∀i,(hi:i<s.length)->(eQ s[i] r=true↔i<iY s r)):=by
 induction s with
 |nil=>simp[iY]
 |cons x s ih=>
  have hs:=List.pairwise_cons.1 h
  have ih:=ih hs.2
  cases hx:eQ x r with
  |true=>
   have e:iY (x::s) r=iY s r+1:=by simp[iY,List.filter_cons,hx]
   rw[e]
   refine⟨by rw[List.take_succ_cons,ih.1,List.filter_cons,hx];rfl,λi hi=>?_⟩
   cases i with
   |zero=>simp[hx]
   |succ i=>
    rw[List.getElem_cons_succ]
    have:=ih.2 i (by simpa using hi)
    rw[this];omega
  |false=>
   have none:∀y∈s,eQ y r=false:=by
    intro y hy
    cases hyr:eQ y r with
    |false=>rfl
    |true=>rw[Gy (hs.1 y hy) hyr]at hx;cases hx
   have e:(x::s).filter (λx=>eQ x r)=[]:=by
    rw[List.filter_eq_nil_iff]
    intro y hy
    rcases List.mem_cons.1 hy with rfl|hy
    ·rw[hx];decide
    ·rw[none y hy];decide
   have e2:iY (x::s) r=0:=by unfold iY;rw[e];rfl
   rw[e2,e]
   refine⟨rfl,λi hi=>⟨λh3=>?_,λh3=>absurd h3 (by omega)⟩⟩
   cases i with
   |zero=>rw[List.getElem_cons_zero,hx]at h3;cases h3
   |succ i=>rw[List.getElem_cons_succ,none _ (List.getElem_mem _)]at h3;cases h3
theorem aso{s:List ah}(h:iG s)(r:ah):s.drop (iY s r+(if iY s r<s.length∧dP (gt s (iY s r:Nat)) r=true then 1 else 0))=s.filter (λx=>eQ r x):=by
 have lc:=aaR h r
 have h1:s.filter (λx=>eQ r x)=(s.drop (iY s r)).filter (λx=>eQ r x):=by
  have e0:s.filter (λx=>eQ r x)=(s.take (iY s r)++s.drop (iY s r)).filter (λx=>eQ r x):=by rw[List.take_append_drop]
  rw[e0,List.filter_append,lc.1]
  have e:(List.filter (λx=>eQ x r) s).filter (λx=>eQ r x)=[]:=by
   rw[List.filter_eq_nil_iff]
   intro y hy
   rw[B6 (List.mem_filter.1 hy).2];decide
  rw[e,List.nil_append]
 rw[h1]
 have hd:∀x∈s.drop (iY s r),eQ x r=false:=by
  intro x hx
  obtain⟨i,hi,rfl⟩:=List.mem_iff_getElem.1 hx
  rw[List.getElem_drop]
  cases hc:eQ (s[iY s r+i]'(by simp at hi;omega)) r with
  |false=>rfl
  |true=>have:=(lc.2 _ (by simp at hi;omega)).1 hc;omega
 have hp:iG (s.drop (iY s r)):=h.drop
 by_cases be:iY s r<s.length
 ·have hg:=d_ be
  rw[hg]
  rw[List.drop_eq_getElem_cons be]at hd hp⊢
  have zo:=List.pairwise_cons.1 hp
  by_cases hk:dP s[iY s r] r=true
  ·rw[if_pos ⟨be,hk⟩,List.filter_cons,(aaP hk).2▸Gz r|>λ(e:eQ r s[iY s r]=false)=>e,if_neg (by decide)]
   refine(List.filter_eq_self.2 λx hx=>?_).symm
   rw[<-(aaP hk).1]
   exact zo.1 x hx
  ·rw[if_neg (by simp[hk]),Nat.add_zero,List.drop_eq_getElem_cons be]
   refine(List.filter_eq_self.2 λx hx=>?_).symm
   have h0:=aaO (hd _ (.head _)) (by simpa using hk)
   rcases List.mem_cons.1 hx with rfl|hx
   ·exact h0
   ·exact Gy h0 (zo.1 x hx)
 ·rw[List.drop_eq_nil_iff.2 (by omega),List.drop_eq_nil_iff.2 (by omega)]
  rfl
theorem bm.take{s:List ah}(h:bm s)(n:Nat):bm (s.take n):=λr hr=>h r (List.mem_of_mem_take hr)
theorem bm.drop{s:List ah}(h:bm s)(n:Nat):bm (s.drop n):=λr hr=>h r (List.mem_of_mem_drop hr)
theorem Dd{β σ:Type}{F:(σ->Option β)->σ->Option β}{R:Nat}{x:σ}(st:Nat->σ)(n:Nat){out:Option β}(hx:x=st 0)(hR:n<R)(step:∀i:Nat,(i:Int)<(n:Int)->∀s,F s (st i)=s (st (i+1)))(fin:∀s,F s (st n)=out):iter F R x=out:=by
 have:=yM (F:=F) (R:=R) (x:=x) n st (λ_=>true) (iR:=out) (gf:=out) hx hR (λi hi s=>by simpa using step i hi s) fin
 rw[this];simp
theorem GC(s:List ah)(a k o y q:Int)(l:List cu)(c:Int)(f:Bool)(h:s.length<=1048570)(hn:bm s)(hs:iG s)(hl:l.length<=1048576):
  wX [.l (s.map aB),ii a,ii k,ii o,ii y,ii q,.l (l.map fH),ii c,bb f]=some [.l ((dA s ⟨a,k,o,y,q,l,c,f⟩).map aB)]:=by
 obtain⟨r,hr⟩:∃r:ah,r=⟨a,k,o,y,q,l,c,f⟩:=⟨_,rfl⟩
 have hle:=asn s r
 have lc:=aaR hs r
 have zt:=aso hs r
 rw[aq6];simp(disch:=omega) only[↓pq,↓pj,ps,pz,↓reduceIte,aj,ak,ap,aq,au,av,aw,ax,ay,Nj,Nk]
 refine Dd (λi=>[ii i]) (iY s r) rfl (dR (by omega)) ?_ ?_
 ·intro i hi w
  have dl:(i:Int)<s.length:=by omega
  have hb:eQ (gt s i) r=true:=by rw[d_ (by omega)];exact(lc.2 i (by omega)).2 (by omega)
  have jz:eQ ⟨(gt s i).ae,(gt s i).kind,(gt s i).owner,(gt s i).key,0,[],0,false⟩ ⟨a,k,o,y,0,[],0,false⟩=true:=by rw[<-hb,hr];rfl
  simp(disch:=omega) only[↓pq,↓pj,ps,pz,↓reduceIte,aj,ak,ap,aq,au,av,aw,ax,ay,Nj,dl,NH,jz]
 ·intro w
  have ht:((iY s r:Nat):Int).toNat=iY s r:=Int.toNat_natCast _
  have pi:(s.take (iY s r)).length<=1048570:=by simp;omega
  by_cases be:iY s r<s.length
  ·have dl:((iY s r:Nat):Int)<s.length:=by omega
   have hb:eQ (gt s (iY s r:Nat)) r=false:=by
    rw[d_ be]
    cases hc:eQ s[iY s r] r with
    |false=>rfl
    |true=>have:=(lc.2 _ be).1 hc;omega
   have jz:eQ ⟨(gt s (iY s r:Nat)).ae,(gt s (iY s r:Nat)).kind,(gt s (iY s r:Nat)).owner,(gt s (iY s r:Nat)).key,0,[],0,false⟩ ⟨a,k,o,y,0,[],0,false⟩=false:=by rw[<-hb,hr];rfl
   have mZ:dP ⟨(gt s (iY s r:Nat)).ae,(gt s (iY s r:Nat)).kind,(gt s (iY s r:Nat)).owner,(gt s (iY s r:Nat)).key,0,[],0,false⟩ ⟨a,k,o,y,0,[],0,false⟩=dP (gt s (iY s r:Nat)) r:=by rw[hr];rfl
   simp(disch:=omega) only[↓pq,↓pj,ps,pz,↓reduceIte,aj,ak,ap,aq,au,av,aw,ax,ay,Nj,dl,NH,jz,ht,NQ _ (show(s.take (iY s r)).length<=1048576 by omega) (hn.take _),q4_,NG,mZ,dS]
   cases hk:dP (gt s (iY s r:Nat)) r with
   |true=>
    have Ak:(((iY s r:Nat):Int)+1).toNat=iY s r+1:=by omega
    have hd:=NQ (s.drop (iY s r+1)) (by simp;omega) (hn.drop _)
    rw[if_pos ⟨be,hk⟩]at zt
    simp only[if_true]
    simp(disch:=omega) only[↓pq,↓pj,ps,pz,↓reduceIte,aj,ak,ap,aq,au,av,aw,ax,ay,Nj,Ak,hd]
    rw[Ul (by simp;omega),dU,zt,lc.1,<-hr,List.append_assoc]
    rfl
   |false=>
    have hd:=NQ (s.drop (iY s r)) (by simp;omega) (hn.drop _)
    rw[if_neg (by simp[hk]),Nat.add_zero]at zt
    simp only[dS,if_false]
    simp(disch:=omega) only[↓pq,↓pj,ps,pz,↓reduceIte,aj,ak,ap,aq,au,av,aw,ax,ay,Nj,ht,hd]
    rw[Ul (by simp;omega),dU,zt,lc.1,<-hr,List.append_assoc]
    rfl
  ·have dl:¬(((iY s r:Nat):Int)<s.length):=by omega
   have hd:=NQ (s.drop (iY s r)) (by simp;omega) (hn.drop _)
   rw[if_neg (by simp[be]),Nat.add_zero]at zt
   simp(disch:=omega) only[↓pq,↓pj,ps,pz,↓reduceIte,aj,ak,ap,aq,au,av,aw,ax,ay,Nj,dl,ht,NQ _ (show(s.take (iY s r)).length<=1048576 by omega) (hn.take _),q4_,hd]
   rw[Ul (by simp;omega),dU,zt,lc.1,<-hr,List.append_assoc]
   rfl
theorem GD(s:List ah)(a k o y q:Int)(l:List cu)(c:Int)(f:Bool)(h:s.length<=1048570)(hn:bm s)(hl:l.length<=1048576):
  C6 [.l (s.map aB),ii a,ii k,ii o,ii y,ii q,.l (l.map fH),ii c,bb f]=some [.l ((dA s ⟨a,k,o,y,q,l,c,f⟩).map aB)]:=by
 obtain⟨r,hr⟩:∃r:ah,r=⟨a,k,o,y,q,l,c,f⟩:=⟨_,rfl⟩
 have hb:∀x:ah,eQ ⟨x.ae,x.kind,x.owner,x.key,0,[],0,false⟩ ⟨a,k,o,y,0,[],0,false⟩=eQ x r:=λx=>by rw[hr];rfl
 have jz:∀x:ah,eQ ⟨a,k,o,y,0,[],0,false⟩ ⟨x.ae,x.kind,x.owner,x.key,0,[],0,false⟩=eQ r x:=λx=>by rw[hr];rfl
 rw[aph];simp(disch:=omega) only[↓pq,↓pj,ps,pz,↓reduceIte,aj,ak,ap,aq,au,av,aw,ax,ay,PP,PQ,Mr]
 refine(jc s (λi c=>[.l (c.map aB),ii i]) (λc x=>if eQ x r=true then c++[x]else c) (λd=>some [T.l ((s.foldl (λc x=>if eQ r x=true then c++[x]else c) (d++[r])).map aB)]) [] (λi c=>c.length<=i) rfl (dR (by omega)) (by simp) ?_ ?_).trans ?_
 ·intro i c hi hc
  refine⟨by split<;>(try simp)<;>omega,λw=>?_⟩
  have:=hn.gt (n:=i) (by omega) hi
  simp(disch:=omega) only[↓pq,↓pj,ps,pz,↓reduceIte,aj,ak,ap,aq,au,av,aw,ax,ay,PP,PQ,hi,NI,hb]
  split<;>rfl
 ·intro d w hd
  simp(disch:=omega) only[↓pq,↓pj,ps,pz,↓reduceIte,aj,ak,ap,aq,au,av,aw,ax,ay,PP,PQ,]
  rw[<-hr]
  refine jc s (λi c=>[.l (c.map aB),ii i]) (λc x=>if eQ r x=true then c++[x]else c) (λc=>some [T.l (c.map aB)]) (d++[r]) (λi c=>c.length<=d.length+1+i) rfl (dR (by omega)) (by simp) ?_ ?_
  ·intro i c hi hc
   refine⟨by split<;>(try simp)<;>omega,λw=>?_⟩
   have:=hn.gt (n:=i) (by omega) hi
   simp(disch:=omega) only[↓pq,↓pj,ps,pz,↓reduceIte,aj,ak,ap,aq,au,av,aw,ax,ay,PP,PQ,hi,NI,jz]
   split<;>rfl
  ·intro c w hc
   simp(disch:=omega) only[↓pq,↓pj,ps,pz,↓reduceIte,aj,ak,ap,aq,au,av,aw,ax,ay,PP,PQ,]
 ·rw[KY,KY,<-hr]
  unfold dA
  simp
theorem asp{s:List ah}{r:ah}{n:Nat}(h:s.length+1<=n):(dA s r).length<=n:=Nat.le_trans (GA s r) h
def v9:List Int:=[1,2,3,4,5,6]
def fI(l:List Int):Prop:=l.Pairwise (· < ·)∧∀x∈l,1<=x∧x<=6
theorem GF:∀{a b:List Int},a.Pairwise (· < ·)->b.Pairwise (· < ·)->(∀x,x∈a↔x∈b)->a=b
 | [],[],_,_,_=>rfl
 | [],y::b,_,_,h=>absurd ((h y).2 (.head _)) (by simp)
 |x::a,[],_,_,h=>absurd ((h x).1 (.head _)) (by simp)
 |x::a,y::b,ha,hb,h=>by
  have v8:=List.pairwise_cons.1 ha
  have jz:=List.pairwise_cons.1 hb
  have Jq:x=y:=by
   rcases List.mem_cons.1 ((h x).1 (.head _))with e|e
   ·exact e
   ·rcases List.mem_cons.1 ((h y).2 (.head _))with e'|e'
    ·exact e'.symm
    ·have:=jz.1 x e;have:=v8.1 y e';omega
  subst Jq
  have:a=b:=GF v8.2 jz.2 λz=>by
   constructor
   ·intro hz
    rcases List.mem_cons.1 ((h z).1 (.tail _ hz))with e|e
    ·subst e;have:=v8.1 z hz;omega
    ·exact e
   ·intro hz
    rcases List.mem_cons.1 ((h z).2 (.tail _ hz))with e|e
    ·subst e;have:=jz.1 z hz;omega
    ·exact e
  rw[this]
def yV(a b:List Int):List Int:=v9.filter λx=>a.contains x||b.contains x
theorem sk:v9.Pairwise (· < ·):=by unfold v9;simp
theorem GH(a b:List Int):fI (yV a b):=by
 refine⟨sk.filter _,λx hx=>?_⟩
 have:=(List.mem_filter.1 hx).1
 simp[v9]at this
 omega
theorem ju{x:Int}:x∈v9↔1<=x∧x<=6:=by simp[v9];omega
theorem GI{a b:List Int}{x:Int}:x∈yV a b↔(1<=x∧x<=6)∧(x∈a∨x∈b):=by
 unfold yV
 rw[List.mem_filter,ju]
 simp
theorem aaS{a:List Int}(h:fI a):yV [] a=a:=
 GF (GH _ _).1 h.1 λx=>by
  rw[GI]
  exact⟨λh'=>h'.2.resolve_left (by simp),λh'=>⟨h.2 x h',.inr h'⟩⟩
theorem sm{a:List Int}(h:fI a):a.length<=6:=by
 have e:yV [] a=a:=aaS h
 rw[<-e]
 exact List.length_filter_le _ _
theorem aaT:fI []:=⟨.nil,by simp⟩
theorem Ij{n:Int}(h:1<=n)(h':n<=6):fI [n]:=⟨by simp,by simp;omega⟩
theorem xk(l:List Int)(n:Int)(h:l.length<=1048576):FO [.l (l.map aD),ii n]=some [bb (l.contains n)]:=by
 rw[aq8];simp(disch:=omega) only[↓pq,↓pj,ps,pz,↓reduceIte,aj,ak,ap,aq,au,av,aw,ax,ay,jN_,Nl]
 refine(H0 l (λi=>[bb false,ii i]) (λx=>x==n) (λ_=>some [bb true]) (lp:=some [bb false]) rfl (dR h) ?_ ?_).trans ?_
 ·intro i hi q
  simp(disch:=omega) only[↓pq,↓pj,ps,pz,↓reduceIte,aj,ak,ap,aq,au,av,aw,ax,ay,jN_,hi]
 ·intro q
  simp(disch:=omega) only[↓pq,↓pj,ps,pz,↓reduceIte,aj,ak,ap,aq,au,av,aw,ax,ay,jN_,]
 ·rw[j9]
  congr 3
  by_cases hf:eF (λx=>x==n) l<0
  ·rw[if_pos hf]
   have:=(C4 _ _).1 hf
   cases hc:l.contains n with
   |false=>rfl
   |true=>
    have hm:=List.contains_iff_mem.1 hc
    have:=this n hm
    simp at this
  ·rw[if_neg hf]
   have:=uc _ _ (by omega:0<=eF (λx=>x==n) l)
   have hm:=kO (l:=l) (n:=eF (λx=>x==n) l) (by omega) (ub _ _)
   rw[beq_iff_eq]at this
   rw[this]at hm
   exact(List.contains_iff_mem.2 hm).symm
theorem aaU(l:List Int)(n:Int)(h:l.length<=1048576):BA [.l (l.map aD),ii n]=some [bb (l.contains n)]:=by
 rw[apw];simp(disch:=omega) only[↓pq,↓pj,ps,pz,↓reduceIte,aj,ak,ap,aq,au,av,aw,ax,ay,kP_,MA]
 refine(H0 l (λi=>[bb false,ii i]) (λx=>x==n) (λ_=>some [bb true]) (lp:=some [bb false]) rfl (dR h) ?_ ?_).trans ?_
 ·intro i hi q
  simp(disch:=omega) only[↓pq,↓pj,ps,pz,↓reduceIte,aj,ak,ap,aq,au,av,aw,ax,ay,kP_,hi]
 ·intro q
  simp(disch:=omega) only[↓pq,↓pj,ps,pz,↓reduceIte,aj,ak,ap,aq,au,av,aw,ax,ay,kP_,]
 ·rw[j9]
  congr 3
  by_cases hf:eF (λx=>x==n) l<0
  ·rw[if_pos hf]
   have:=(C4 _ _).1 hf
   cases hc:l.contains n with
   |false=>rfl
   |true=>
    have hm:=List.contains_iff_mem.1 hc
    have:=this n hm
    simp at this
  ·rw[if_neg hf]
   have:=uc _ _ (by omega:0<=eF (λx=>x==n) l)
   have hm:=kO (l:=l) (n:=eF (λx=>x==n) l) (by omega) (ub _ _)
   rw[beq_iff_eq]at this
   rw[this]at hm
   exact(List.contains_iff_mem.2 hm).symm
theorem re(l:List Int)(h:l.length<=1048576):r_ [.l (l.map aD)]=some [.l (l.map aD)]:=by
 rw[aqh];simp(disch:=omega) only[↓pq,↓pj,ps,pz,↓reduceIte,aj,ak,ap,aq,au,av,aw,ax,ay,MR]
theorem PX(a b:Int)(l:List Int)(h:l.length<=1048576):wY [ii a,ii b,.l (l.map aD)]=some [ii a,ii b,.l (l.map aD)]:=by
 rw[ark];simp(disch:=omega) only[↓pq,↓pj,ps,pz,↓reduceIte,aj,ak,ap,aq,au,av,aw,ax,ay,Ns,re]
theorem NR(a b:Int)(l:List Int)(h:l.length<=1048576):Lh [ii a,ii b,.l (l.map aD)]=some [ii a,ii b,.l (l.map aD)]:=by
 rw[apC];simp(disch:=omega) only[↓pq,↓pj,ps,pz,↓reduceIte,aj,ak,ap,aq,au,av,aw,ax,ay,ME]
def ez(l:List Way)(to:Int):Int:=eF (λw=>w.to==to) l
theorem NS(l:List Way)(to:Int)(h:l.length<=1048576)(hl:∀w∈l,w.aG.length<=1048576):Lx [.l (l.map aZ),ii to]=if ez l to<0 then some [ii 0,ii 0,.l [],bb false]else some (aZ (gt l (ez l to))++[bb true]):=by
 rw[arq];simp(disch:=omega) only[↓pq,↓pj,ps,pz,↓reduceIte,aj,ak,ap,aq,au,av,aw,ax,ay,kD_,Nv]
 refine H0 l (λi=>[bb false,ii i]) (λw=>w.to==to) (λi=>some (aZ (gt l i)++[bb true])) (lp:=some [ii 0,ii 0,.l [],bb false]) rfl (dR h) ?_ ?_
 ·intro i hi q
  have:=hl _ (kO (n:=i) (by omega) hi)
  simp(disch:=omega) only[↓pq,↓pj,ps,pz,↓reduceIte,aj,ak,ap,aq,au,av,aw,ax,ay,kD_,hi,PX]
  rfl
 ·intro q
  simp(disch:=omega) only[↓pq,↓pj,ps,pz,↓reduceIte,aj,ak,ap,aq,au,av,aw,ax,ay,kD_,]
theorem GJ(l:List Way)(to:Int)(h:l.length<=1048576)(hl:∀w∈l,w.aG.length<=1048576):zy [.l (l.map aZ),ii to]=if ez l to<0 then some [ii 0,ii 0,.l [],bb false]else some (aZ (gt l (ez l to))++[bb true]):=by
 rw[apE];simp(disch:=omega) only[↓pq,↓pj,ps,pz,↓reduceIte,aj,ak,ap,aq,au,av,aw,ax,ay,kK_,MF]
 refine H0 l (λi=>[bb false,ii i]) (λw=>w.to==to) (λi=>some (aZ (gt l i)++[bb true])) (lp:=some [ii 0,ii 0,.l [],bb false]) rfl (dR h) ?_ ?_
 ·intro i hi q
  have:=hl _ (kO (n:=i) (by omega) hi)
  simp(disch:=omega) only[↓pq,↓pj,ps,pz,↓reduceIte,aj,ak,ap,aq,au,av,aw,ax,ay,kK_,hi,NR]
  rfl
 ·intro q
  simp(disch:=omega) only[↓pq,↓pj,ps,pz,↓reduceIte,aj,ak,ap,aq,au,av,aw,ax,ay,kK_,]
def fu(c:List Int)(n:Int):List Int:=c.filter (λx=>decide (x<n))++([n]++c.filter (λx=>decide (n<x)))
def dM(c:List Int)(n:Int):Nat:=(c.filter (λx=>decide (x<n))).length
theorem B9(c:List Int)(n:Int):dM c n<=c.length:=List.length_filter_le _ _
theorem NT{c:List Int}(h:c.Pairwise (· < ·))(n:Int):c.take (dM c n)=c.filter (λx=>decide (x<n))∧c.drop (dM c n)=c.filter (λx=>decide (n<=x))∧∀i,(hi:i<c.length)->(c[i]<n↔i<dM c n):=by
 induction c with
 |nil=>simp[dM]
 |cons x c ih=>
  have hs:=List.pairwise_cons.1 h
  obtain⟨i1,i2,i3⟩:=ih hs.2
  by_cases hx:x<n
  ·have e:dM (x::c) n=dM c n+1:=by simp[dM,List.filter_cons,hx]
   have hx':¬n<=x:=by omega
   rw[e]
   refine⟨by rw[List.take_succ_cons,i1];simp[List.filter_cons,hx],by rw[List.drop_succ_cons,i2];simp[List.filter_cons,hx'],λi hi=>?_⟩
   cases i with
   |zero=>simp[hx]
   |succ i=>
    rw[List.getElem_cons_succ,i3 i (by simpa using hi)];omega
  ·have e1:(x::c).filter (λx=>decide (x<n))=[]:=by
    rw[List.filter_eq_nil_iff]
    intro y hy
    rcases List.mem_cons.1 hy with rfl|hy
    ·simp;omega
    ·have:=hs.1 y hy;simp;omega
   have e2:(x::c).filter (λx=>decide (n<=x))=x::c:=by
    rw[List.filter_eq_self]
    intro y hy
    rcases List.mem_cons.1 hy with rfl|hy
    ·simp;omega
    ·have:=hs.1 y hy;simp;omega
   have e:dM (x::c) n=0:=by unfold dM;rw[e1];rfl
   rw[e,e1,e2]
   refine⟨rfl,rfl,λi hi=>⟨λh3=>?_,λh3=>absurd h3 (by omega)⟩⟩
   cases i with
   |zero=>rw[List.getElem_cons_zero]at h3;omega
   |succ i=>
    rw[List.getElem_cons_succ]at h3
    have:=hs.1 _ (List.getElem_mem (by simpa using hi:i<c.length));omega
theorem g_{c:List Int}{n x:Int}:x∈fu c n↔x=n∨x∈c:=by
 unfold fu
 simp only[List.mem_append,List.mem_filter,List.mem_singleton,decide_eq_true_eq]
 constructor
 ·rintro(h|h|h)
  ·exact .inr h.1
  ·exact .inl h
  ·exact .inr h.1
 ·rintro(h|h)
  ·exact .inr (.inl h)
  ·rcases Int.lt_trichotomy x n with h'|h'|h'
   ·exact .inl ⟨h,h'⟩
   ·exact .inr (.inl h')
   ·exact .inr (.inr ⟨h,h'⟩)
theorem B_{c:List Int}(h:c.Pairwise (· < ·))(n:Int):(fu c n).Pairwise (· < ·):=by
 unfold fu
 rw[List.pairwise_append,List.pairwise_append]
 refine⟨h.filter _,⟨by simp,h.filter _,?_⟩,?_⟩
 ·intro a ha b hb
  rw[List.mem_singleton]at ha
  have:=(List.mem_filter.1 hb).2
  simp at this;omega
 ·intro a ha b hb
  have ha:=(List.mem_filter.1 ha).2
  simp only[decide_eq_true_eq]at ha
  rcases List.mem_append.1 hb with hb|hb
  ·rw[List.mem_singleton]at hb;omega
  ·have hb:=(List.mem_filter.1 hb).2
   simp only[decide_eq_true_eq]at hb;omega
theorem asq{c:List Int}(h:fI c){n:Int}(h1:1<=n)(h2:n<=6):fI (fu c n):=
 ⟨B_ h.1 n,λx hx=>by rcases g_.1 hx with rfl|hx;exact⟨h1,h2⟩;exact h.2 x hx⟩
theorem GK{c:List Int}(h:c.Pairwise (· < ·)){n:Int}(hn:n∈c):fu c n=c:=
 GF (B_ h n) h λx=>by rw[g_];exact⟨λh=>h.elim (λe=>e▸hn) id,.inr⟩
theorem Ik{c:List Int}(h:c.Pairwise (· < ·)){n:Int}(hn:n∉c):fu c n=c.take (dM c n)++([n]++c.drop (dM c n)):=by
 obtain⟨h1,h2,_⟩:=NT h n
 rw[h1,h2]
 unfold fu
 congr 2
 refine List.filter_congr λx hx=>?_
 have:x≠n:=λe=>hn (e▸hx)
 have:(n<x)=(n<=x):=by simp only[eq_iff_iff];omega
 simp[this]
theorem GL{c:List Int}(h:c.Pairwise (· < ·)){n:Int}(hl:dM c n<c.length):(gt c (dM c n:Nat)=n↔n∈c):=by
 obtain⟨_,h2,h3⟩:=NT h n
 rw[d_ hl]
 constructor
 ·intro e;exact e▸List.getElem_mem hl
 ·intro hm
  obtain⟨j,hj,e⟩:=List.mem_iff_getElem.1 hm
  have h4:¬(j<dM c n):=λhc=>by have:=(h3 j hj).2 hc;omega
  have h5:¬(c[dM c n]<n):=λhc=>by have:=(h3 _ hl).1 hc;omega
  rcases Nat.lt_or_ge (dM c n) j with h6|h6
  ·have:=List.pairwise_iff_getElem.1 h _ _ hl hj h6
   omega
  ·have:j=dM c n:=by omega
   subst this;exact e
theorem GM{c:List Int}(h:c.Pairwise (· < ·)){n:Int}(hl:¬dM c n<c.length):n∉c:=by
 obtain⟨_,_,h3⟩:=NT h n
 intro hm
 obtain⟨j,hj,e⟩:=List.mem_iff_getElem.1 hm
 have h4:¬(j<dM c n):=λhc=>by have:=(h3 j hj).2 hc;omega
 omega
def lY(a b:Way):Way:=if b.cost>a.cost then a else if a.cost>b.cost then b else⟨a.to,a.cost,yV a.aG b.aG⟩
theorem aaV{l c:List Int}(hl:∀x∈l,1<=x∧x<=6)(hc:fI c):fI (l.foldl fu c)∧∀x,x∈l.foldl fu c↔x∈c∨x∈l:=by
 induction l generalizing c with
 |nil=>exact⟨hc,by simp⟩
 |cons n l ih=>
  have hn:=hl n (.head _)
  obtain⟨h1,h2⟩:=ih (λx hx=>hl x (.tail _ hx)) (asq hc hn.1 hn.2)
  refine⟨h1,λx=>?_⟩
  rw[List.foldl_cons,h2,g_,List.mem_cons]
  constructor
  ·rintro((h|h)|h)
   ·exact .inr (.inl h)
   ·exact .inl h
   ·exact .inr (.inr h)
  ·rintro(h|h|h)
   ·exact .inl (.inr h)
   ·exact .inl (.inl h)
   ·exact .inr h
def GN(a b:Way):Way:=if b.cost>a.cost then a else if a.cost>b.cost then b else⟨a.to,a.cost,b.aG.foldl fu (a.aG.foldl fu [])⟩
theorem GP(c:List Int)(n:Int):(fu c n).length<=c.length+1:=by
 have:∀c:List Int,(c.filter (λx=>decide (x<n))).length+(c.filter (λx=>decide (n<x))).length<=c.length:=by
  intro c
  induction c with
  |nil=>simp
  |cons x c ih=>by_cases h1:x<n<;>by_cases h2:n<x<;>simp[h1,h2]<;>omega
 have:=this c
 unfold fu
 simp only[List.length_append,List.length_singleton];omega
theorem asr(a b:Int)(l:List Int)(a' b':Int)(l':List Int)(hl:l.length<=50)(ke:l'.length<=50):yO [ii a,ii b,.l (l.map aD),ii a',ii b',.l (l'.map aD)]=some (aZ (GN ⟨a,b,l⟩ ⟨a',b',l'⟩)):=by
 rw[arm];simp(disch:=omega) only[↓pq,↓pj,ps,pz,↓reduceIte,aj,ak,ap,aq,au,av,aw,ax,ay,xd,xe,xf,xg,Nt,PX _ _ _ (show l.length<=1048576 by omega),PX _ _ _ (show l'.length<=1048576 by omega)]
 unfold GN
 by_cases h1:b'>b
 ·simp only[h1,if_true];rfl
 by_cases h2:b>b'
 ·simp only[h1,h2,if_true,if_false];rfl
 simp only[h1,h2,if_false]
 have one:∀(c:List Int) (n:Int) (j:Nat) (s:List T->Option (List T)),c.length<=200->(j:Int)<100->∀{F:af->af},(∀k:Nat,∀w,(k:Int)<dM c n->F w [ii k]=w [ii (k+1)])->(∀w,F w [ii (dM c n)]=s [ii (j+1),.l ((fu c n).map aD)])->iter F rounds [ii 0]=s [ii (j+1),.l ((fu c n).map aD)]:=by
  intro c n j s hc hj F h1 h2
  have:=B9 c n
  exact Dd (λk=>[ii k]) (dM c n) rfl (dR (by omega)) (λi hi w=>h1 i w hi) h2
 refine(jc l (λi c=>[ii i,.l (c.map aD)]) fu (λc=>some (aZ ⟨a,b,l'.foldl fu c⟩)) [] (λi c=>c.Pairwise (· < ·)∧c.length<=i) rfl (dR (by omega)) ⟨.nil,by simp⟩ ?_ ?_).trans ?_
 ·intro i c hi hc
  have oK:=hc.2
  refine⟨⟨B_ hc.1 _,by have:=GP c (gt l i);omega⟩,λs=>?_⟩
  have hle:=B9 c (gt l i)
  obtain⟨c1,c2,c3⟩:=NT hc.1 (gt l i)
  simp(disch:=omega) only[↓pq,↓pj,ps,pz,↓reduceIte,aj,ak,ap,aq,au,av,aw,ax,ay,xd,xe,xf,xg,hi]
  refine one c (gt l i) i s (by omega) (by omega) ?_ ?_
  ·intro k w hk
   have fh:(k:Int)<c.length:=by omega
   have cK:gt c (k:Int)<gt l i:=by rw[d_ (by omega)];exact(c3 k (by omega)).2 (by omega)
   simp(disch:=omega) only[↓pq,↓pj,ps,pz,↓reduceIte,aj,ak,ap,aq,au,av,aw,ax,ay,xd,xe,xf,xg,fh,cK]
  ·intro w
   by_cases be:dM c (gt l i)<c.length
   ·have fh:((dM c (gt l i):Nat):Int)<c.length:=by omega
    have cK:¬(gt c ((dM c (gt l i):Nat):Int)<gt l i):=by rw[d_ be];intro tH;have:=(c3 _ be).1 tH;omega
    have iz:=GL hc.1 be
    by_cases jl:gt l i∈c
    ·rw[GK hc.1 jl]
     have oX:=iz.2 jl
     simp(disch:=omega) only[↓pq,↓pj,ps,pz,↓reduceIte,aj,ak,ap,aq,au,av,aw,ax,ay,xd,xe,xf,xg,fh,cK,oX]
    ·rw[Ik hc.1 jl]
     have oX:¬(gt c ((dM c (gt l i):Nat):Int)=gt l i):=λe=>jl (iz.1 e)
     simp(disch:=omega) only[↓pq,↓pj,ps,pz,↓reduceIte,aj,ak,ap,aq,au,av,aw,ax,ay,xd,xe,xf,xg,fh,cK,oX,re _ (show(c.take (dM c (gt l i))).length<=1048576 by simp;omega)]
     rw[Bn (by simp;omega),dU,yF (by simp;omega),dU,List.append_assoc]
   ·have fh:¬(((dM c (gt l i):Nat):Int)<c.length):=by omega
    rw[Ik hc.1 (GM hc.1 be)]
    simp(disch:=omega) only[↓pq,↓pj,ps,pz,↓reduceIte,aj,ak,ap,aq,au,av,aw,ax,ay,xd,xe,xf,xg,fh,re _ (show(c.take (dM c (gt l i))).length<=1048576 by simp;omega)]
    rw[Bn (by simp;omega),dU,yF (by simp;omega),dU,List.append_assoc]
 ·intro c w hc
  simp(disch:=omega) only[↓pq,↓pj,ps,pz,↓reduceIte,aj,ak,ap,aq,au,av,aw,ax,ay,xd,xe,xf,xg,]
  refine jc l' (λi c=>[ii i,.l (c.map aD)]) fu (λc=>some (aZ ⟨a,b,c⟩)) c (λi c=>c.Pairwise (· < ·)∧c.length<=l.length+i) rfl (dR (by omega)) hc ?_ ?_
  ·intro i c hi hc
   have oK:=hc.2
   refine⟨⟨B_ hc.1 _,by have:=GP c (gt l' i);omega⟩,λs=>?_⟩
   have hle:=B9 c (gt l' i)
   obtain⟨c1,c2,c3⟩:=NT hc.1 (gt l' i)
   simp(disch:=omega) only[↓pq,↓pj,ps,pz,↓reduceIte,aj,ak,ap,aq,au,av,aw,ax,ay,xd,xe,xf,xg,hi]
   refine one c (gt l' i) i s (by omega) (by omega) ?_ ?_
   ·intro k w hk
    have fh:(k:Int)<c.length:=by omega
    have cK:gt c (k:Int)<gt l' i:=by rw[d_ (by omega)];exact(c3 k (by omega)).2 (by omega)
    simp(disch:=omega) only[↓pq,↓pj,ps,pz,↓reduceIte,aj,ak,ap,aq,au,av,aw,ax,ay,xd,xe,xf,xg,fh,cK]
   ·intro w
    by_cases be:dM c (gt l' i)<c.length
    ·have fh:((dM c (gt l' i):Nat):Int)<c.length:=by omega
     have cK:¬(gt c ((dM c (gt l' i):Nat):Int)<gt l' i):=by rw[d_ be];intro tH;have:=(c3 _ be).1 tH;omega
     have iz:=GL hc.1 be
     by_cases jl:gt l' i∈c
     ·rw[GK hc.1 jl]
      have oX:=iz.2 jl
      simp(disch:=omega) only[↓pq,↓pj,ps,pz,↓reduceIte,aj,ak,ap,aq,au,av,aw,ax,ay,xd,xe,xf,xg,fh,cK,oX]
     ·rw[Ik hc.1 jl]
      have oX:¬(gt c ((dM c (gt l' i):Nat):Int)=gt l' i):=λe=>jl (iz.1 e)
      simp(disch:=omega) only[↓pq,↓pj,ps,pz,↓reduceIte,aj,ak,ap,aq,au,av,aw,ax,ay,xd,xe,xf,xg,fh,cK,oX,re _ (show(c.take (dM c (gt l' i))).length<=1048576 by simp;omega)]
      rw[Bn (by simp;omega),dU,yF (by simp;omega),dU,List.append_assoc]
    ·have fh:¬(((dM c (gt l' i):Nat):Int)<c.length):=by omega
     rw[Ik hc.1 (GM hc.1 be)]
     simp(disch:=omega) only[↓pq,↓pj,ps,pz,↓reduceIte,aj,ak,ap,aq,au,av,aw,ax,ay,xd,xe,xf,xg,fh,re _ (show(c.take (dM c (gt l' i))).length<=1048576 by simp;omega)]
     rw[Bn (by simp;omega),dU,yF (by simp;omega),dU,List.append_assoc]
  ·intro c w hc
   simp(disch:=omega) only[↓pq,↓pj,ps,pz,↓reduceIte,aj,ak,ap,aq,au,av,aw,ax,ay,xd,xe,xf,xg,]
   rfl
 ·rfl
theorem ass{a b:Way}(h:fI a.aG)(h':fI b.aG):GN a b=lY a b:=by
 unfold GN lY
 obtain⟨q1,q2⟩:=aaV h.2 aaT
 obtain⟨q3,q4⟩:=aaV h'.2 q1
 congr 3
 refine GF q3.1 (GH _ _).1 λx=>?_
 rw[q4,q2,GI]
 constructor
 ·rintro((hx|hx)|hx)
  ·cases hx
  ·exact⟨h.2 x hx,.inl hx⟩
  ·exact⟨h'.2 x hx,.inr hx⟩
 ·rintro⟨_,hx|hx⟩
  ·exact .inl (.inr hx)
  ·exact .inr hx
theorem qP_(a b:Int)(l:List Int)(a' b':Int)(l':List Int)(h:fI l)(h':fI l'):yO [ii a,ii b,.l (l.map aD),ii a',ii b',.l (l'.map aD)]=some (aZ (lY ⟨a,b,l⟩ ⟨a',b',l'⟩)):=by
 rw[<-ass h h']
 exact asr a b l a' b' l' (by have:=sm h;omega) (by have:=sm h';omega)
theorem aaX{α:Type} [Inhabited α]{enc:α->List T}{l:List α}{i off:Nat}{vs:List T}{x:α}(h:i<l.length)(hx:(enc (gt l i)).take off++vs++(enc (gt l i)).drop (off+vs.length)=enc x):setRow (l.map enc) i off vs=(l.set i x).map enc:=by
 unfold setRow
 refine List.ext_getElem (by simp) λj h1 h2=>?_
 simp only[List.getElem_modify,List.getElem_map,List.getElem_set]
 by_cases hj:i=j
 ·subst hj
  rw[if_pos rfl,if_pos rfl,<-hx,d_ h]
 ·rw[if_neg hj,if_neg hj]
theorem Ca{α:Type} [Inhabited α]{enc:α->List T}{sc:Bool}{w off m:Nat}{l:List α}{n:Int}{vs:List T}{x:α}(h:0<=n)(h':n<l.length)(hw:∀y,(enc y).length=w)(ho:off+m<=w)(hv:vs.length=m)(hs:(!sc||vs.all eA)=true)
  (hx:(enc (gt l n)).take off++vs++(enc (gt l n)).drop (off+vs.length)=enc x):Prim.ev (.put sc w off m) (.l (l.map enc)::ii n::vs)=some (.l ((l.set n.toNat x).map enc)):=by
 have hn:n.toNat<l.length:=by omega
 have e:n=((n.toNat:Nat):Int):=by omega
 have hg:=dz (enc:=enc) h h'
 rw[e]
 rw[EP hg (hw _) ho hv hs,Int.toNat_natCast,aaX hn (by rw[<-e];exact hx)]
theorem Cb{l:List Int}{n x:Int}(h:0<=n)(h':n<l.length):Prim.ev (.put true 1 0 1) [.l (l.map aD),ii n,ii x]=some (.l ((l.set n.toNat x).map aD)):=
 Ca (enc:=aD) (x:=x) h h' (λ_=>rfl) (by decide) rfl rfl rfl
theorem ast{l:List Bool}{n:Int}{x:Bool}(h:0<=n)(h':n<l.length):Prim.ev (.put true 1 0 1) [.l (l.map jD),ii n,bb x]=some (.l ((l.set n.toNat x).map jD)):=
 Ca (enc:=jD) (x:=x) h h' (λ_=>rfl) (by decide) rfl rfl rfl
theorem asu{l:List Way}{n x:Int}(h:0<=n)(h':n<l.length):Prim.ev (.put true 3 0 1) [.l (l.map aZ),ii n,ii x]=some (.l ((l.set n.toNat ⟨x,(gt l n).cost,(gt l n).aG⟩).map aZ)):=
 Ca (enc:=aZ) (x:=⟨x,(gt l n).cost,(gt l n).aG⟩) h h' (λ_=>rfl) (by decide) rfl rfl rfl
theorem yW{l:List Way}{n a b:Int}{c:List Int}(h:0<=n)(h':n<l.length):Prim.ev (.put false 3 0 3) [.l (l.map aZ),ii n,ii a,ii b,.l (c.map aD)]=some (.l ((l.set n.toNat ⟨a,b,c⟩).map aZ)):=
 Ca (enc:=aZ) (x:=⟨a,b,c⟩) h h' (λ_=>rfl) (by decide) rfl rfl rfl
theorem asv{α:Type} [Inhabited α]{enc:α->List T}{ms:List Bool}{w off:Nat}{l:List α}{n:Int}{vs:List T}{x:α}(h:0<=n)(h':n<l.length)(hw:∀y,(enc y).length=w)(ho:off+vs.length<=w)(hs:rl ms vs=true)
  (hx:(enc (gt l n)).take off++vs++(enc (gt l n)).drop (off+vs.length)=enc x):Prim.ev (.gj ms w off) (.l (l.map enc)::ii n::vs)=some (.l ((l.set n.toNat x).map enc)):=by
 have hn:n.toNat<l.length:=by omega
 have hr:uE (.l (l.map enc)) (ii n)=some (enc (gt l n)):=Bk h (dz (enc:=enc) h h')
 simp only[Prim.ev,hr,Option.bind_some,hw,if_true,if_pos ho,hs,T.rows,T.int]
 rw[aaX hn (by rw[show((n.toNat:Nat):Int)=n by omega];exact hx)]
theorem GQ{l:List Way}{n a b:Int}{c:List Int}(h:0<=n)(h':n<l.length):Prim.ev (.gj [true,true,false] 3 0) [.l (l.map aZ),ii n,ii a,ii b,.l (c.map aD)]=some (.l ((l.set n.toNat ⟨a,b,c⟩).map aZ)):=
 asv (enc:=aZ) (x:=⟨a,b,c⟩) h h' (λ_=>rfl) (by simp) rfl rfl
def gg{α:Type}(enc:α->List T)(l:List α)(i:Nat):List (List T):=List.replicate i []++(l.drop i).map enc
theorem asw{α:Type}{enc:α->List T}{l:List α}{i:Nat}(he:∀x,(enc x).isEmpty=false)(h:i<l.length):Prim.ev .xw [.l (gg enc l i),ii (i:Int)]=some (.l (gg enc l (i+1))):=by
 have hd:l.drop i=l[i]::l.drop (i+1):=List.drop_eq_getElem_cons h
 have hl:(gg enc l i).length=l.length:=by simp[gg];omega
 have hr:(gg enc l i).drop i=enc l[i]::(l.drop (i+1)).map enc:=by rw[gg,hd,List.drop_left' (by simp)];rfl
 have ht:(gg enc l i).take i=List.replicate i []:=by simp[gg]
 have qE:(gg enc l i).drop (i+1)=(l.drop (i+1)).map enc:=by rw[<-List.drop_drop,hr];rfl
 have hf:rp (gg enc l i) i 1=true:=by simp[rp,hr,he]
 have hg:zj (gg enc l i) i 1=gg enc l (i+1):=by rw[zj,ht,qE,gg,<-List.replicate_append_replicate]
 simp only[Prim.ev,Int.toNat_natCast,hl,hf,hg,if_true]
 rw[if_pos (by omega),if_pos (by omega)]
theorem aaY{α:Type}{enc:α->List T}{l:List α}{i m:Nat}{ys:List (List T)}(he:∀x,(enc x).isEmpty=false)(hm:ys.length=m)(h:i+m<=l.length):Prim.ev .ko [.l (gg enc l i),ii (i:Int),.l ys]=some (.l (gg enc l (i+m))):=by
 have hl:(gg enc l i).length=l.length:=by simp[gg];omega
 have hr:(gg enc l i).drop i=(l.drop i).map enc:=by simp[gg]
 have ht:(gg enc l i).take i=List.replicate i []:=by simp[gg]
 have qE:(gg enc l i).drop (i+m)=(l.drop (i+m)).map enc:=by rw[<-List.drop_drop,hr,<-List.map_drop,List.drop_drop]
 have hf:rp (gg enc l i) i m=true:=by
  simp only[rp,hr,List.all_eq_true]
  intro r hr
  obtain⟨x,_,rfl⟩:=List.mem_map.1 (List.mem_of_mem_take hr)
  simp[he]
 have hg:zj (gg enc l i) i m=gg enc l (i+m):=by rw[zj,ht,qE,gg,<-List.replicate_append_replicate]
 simp only[Prim.ev,Int.toNat_natCast,hl,hm,hf,hg,if_true]
 rw[if_pos (by omega),if_pos (by omega)]
theorem NU{α:Type}{enc:α->List T}{l:List α}{k:Nat}(he:∀x,(enc x).isEmpty=false)(h:k<=l.length):Prim.ev .ko [.l (l.map enc),ii 0,.l ((l.take k).map enc)]=some (.l (gg enc l k)):=by
 have:=aaY (enc:=enc) (l:=l) (i:=0) (m:=k) (ys:=(l.take k).map enc) he (by simp;omega) (by omega)
 rw[Nat.zero_add]at this
 exact this
theorem NV{α:Type}{enc:α->List T}{l:List α}{k:Nat}(he:∀x,(enc x).isEmpty=false)(h:k<=l.length):Prim.ev .ko [.l (gg enc l k),ii (k:Int),.l ((l.drop k).map enc)]=some (.l (gg enc l l.length)):=by
 have:=aaY (enc:=enc) (l:=l) (i:=k) (m:=l.length-k) (ys:=(l.drop k).map enc) he (by simp) (by omega)
 rw[show k+(l.length-k)=l.length by omega]at this
 exact this
def xl(l:List Int):List T:=[.l (l.map aD)]
theorem GR{l:List (List Int)}{n:Int}(h:0<=n)(h':n<l.length):Prim.ev (.cell 1 0) [.l (l.map xl),ii n]=some (.l ((gt l n).map aD)):=im h (dz h h') rfl rfl
theorem Il{l:List (List Int)}{n:Int}{c:List Int}(h:0<=n)(h':n<l.length):Prim.ev (.put false 1 0 1) [.l (l.map xl),ii n,.l (c.map aD)]=some (.l ((l.set n.toNat c).map xl)):=
 Ca (enc:=xl) (x:=c) h h' (λ_=>rfl) (by decide) rfl rfl rfl
theorem Cc{α:Type}{enc:α->List T}{n:Nat}{x:α}{vs:List T}(h:n<4294967296)(hx:vs=enc x):Prim.ev .mk (ii (n:Int)::ii (n:Int)::vs)=some (.l ((List.replicate n x).map enc)):=by
 rw[Kh (by unfold qS;exact h),hx,List.map_replicate]
theorem Cd{α:Type} [Inhabited α]{l:List α}{i j:Int}{x:α}(h:0<=i)(h':i<l.length)(hj:0<=j):gt (l.set i.toNat x) j=if i=j then x else gt l j:=by
 unfold gt
 simp only[List.getD_eq_getElem?_getD,List.getElem?_set]
 by_cases e:i=j
 ·subst e
  simp[show i.toNat<l.length by omega]
 ·have:¬(i.toNat=j.toNat):=by omega
  simp[e,this]
theorem NW{α:Type} [Inhabited α]{n:Nat}{x:α}{j:Int}(h:0<=j)(h':j<n):gt (List.replicate n x) j=x:=by
 unfold gt
 simp only[List.getD_eq_getElem?_getD]
 rw[List.getElem?_replicate,if_pos (by omega)]
 rfl
def iH(s:List ah)(ar v:Int):Int:=eF (λx=>dP x ⟨ar,1,v,0,0,[],0,false⟩) s
def rf(s:List ah)(ar v:Int):List cu:=if iH s ar v<0 then []else(gt s (iH s ar v)).bq
def xm(l:List cu)(b:Int):Int:=if eF (λ(x:cu)=>x.to==b) l<0 then 0 else(gt l (eF (λ(x:cu)=>x.to==b) l)).cost
def qN(s:List ah)(ar a b:Int):Int:=xm (rf s ar a) b
def dE(s:List ah)(ar a b:Int):Int:=if qN s ar b a=0 then 0 else qN s ar a b
theorem Im(s:List ah)(ar v:Int):iH s ar v<s.length:=ub _ _
theorem aaZ{s:List ah}(hn:bm s)(ar v:Int):(rf s ar v).length<=1048576:=by
 unfold rf
 split
 ·simp
 ·exact hn.gt (by omega) (Im s ar v)
theorem asx(s:List ah)(ar a b:Int)(h:s.length<=1048576)(hn:bm s):BL [.l (s.map aB),ii ar,ii a,ii b]=some [ii (qN s ar a b)]:=by
 have h2:=Im s ar a
 rw[arf];simp(disch:=omega) only[↓pq,↓pj,ps,pz,↓reduceIte,aj,ak,ap,aq,au,av,aw,ax,ay,jA_,Nq,NO]
 rw[<-iH]
 unfold qN rf
 by_cases hk:iH s ar a<0
 ·simp only[hk,if_true];rfl
 ·have h3:0<=iH s ar a:=by omega
  have hl:=hn.gt h3 h2
  simp only[hk,if_false]
  simp(disch:=omega) only[↓pq,↓pj,ps,pz,↓reduceIte,aj,ak,ap,aq,au,av,aw,ax,ay,jA_,]
  refine(H0 (gt s (iH s ar a)).bq (λi=>[ii 0,ii i]) (λx=>x.to==b) (λi=>some [ii (gt (gt s (iH s ar a)).bq i).cost]) (lp:=some [ii 0]) rfl (dR hl) ?_ ?_).trans ?_
  ·intro i hi q
   simp(disch:=omega) only[↓pq,↓pj,ps,pz,↓reduceIte,aj,ak,ap,aq,au,av,aw,ax,ay,jA_,hi]
  ·intro q
   simp(disch:=omega) only[↓pq,↓pj,ps,pz,↓reduceIte,aj,ak,ap,aq,au,av,aw,ax,ay,jA_,]
  ·unfold xm
   split<;>rfl
theorem De(s:List ah)(ar a b:Int)(h:s.length<=1048576)(hn:bm s):YQ [.l (s.map aB),ii ar,ii a,ii b]=some [ii (dE s ar a b)]:=by
 rw[ari];simp(disch:=omega) only[↓pq,↓pj,ps,pz,↓reduceIte,aj,ak,ap,aq,au,av,aw,ax,ay,Nr,asx _ _ _ _ h hn]
 unfold dE
 split<;>rfl
theorem asz(s:List ah)(ar a:Int)(h:s.length<=1048576):C7 [.l (s.map aB),ii ar,ii a]=if iH s ar a<0 then some [ii 0,ii 0,ii 0,ii 0,ii 0,.l [],ii 0,bb false,bb false]else some (aB (gt s (iH s ar a))++[bb true]):=by
 have h2:=Im s ar a
 rw[apq];simp(disch:=omega) only[↓pq,↓pj,ps,pz,↓reduceIte,aj,ak,ap,aq,au,av,aw,ax,ay,Mx,NP]
 rw[<-iH]
 by_cases hk:iH s ar a<0
 ·simp only[hk,if_true]
 ·have h3:0<=iH s ar a:=by omega
  simp only[hk,if_false]
  simp(disch:=omega) only[↓pq,↓pj,ps,pz,↓reduceIte,aj,ak,ap,aq,au,av,aw,ax,ay,]
  rfl
theorem NX(s:List ah)(ar a:Int)(h:s.length<=1048576):∃c0 c1 c2 c3 c4 c6 c7:T,C7 [.l (s.map aB),ii ar,ii a]=some [c0,c1,c2,c3,c4,.l ((rf s ar a).map fH),c6,c7,bb (decide (0<=iH s ar a))]:=by
 rw[asz _ _ _ h]
 unfold rf
 by_cases hk:iH s ar a<0
 ·rw[if_pos hk,if_pos hk,show decide (0<=iH s ar a)=false by simp;omega];exact⟨_,_,_,_,_,_,_,rfl⟩
 ·rw[if_neg hk,if_neg hk,show decide (0<=iH s ar a)=true by simp;omega];exact⟨_,_,_,_,_,_,_,rfl⟩
theorem asA(s:List ah)(ar a b:Int)(h:s.length<=1048576)(hn:bm s):V5 [.l (s.map aB),ii ar,ii a,ii b]=some [ii (qN s ar a b)]:=by
 obtain⟨c0,c1,c2,c3,c4,c6,c7,e⟩:=NX s ar a h
 have hl:=aaZ hn ar a
 rw[aps];simp(disch:=omega) only[↓pq,↓pj,ps,pz,↓reduceIte,aj,ak,ap,aq,au,av,aw,ax,ay,qq_,My,e]
 refine(H0 (rf s ar a) (λi=>[ii 0,ii i]) (λx=>x.to==b) (λi=>some [ii (gt (rf s ar a) i).cost]) (lp:=some [ii 0]) rfl (dR hl) ?_ ?_).trans ?_
 ·intro i hi q
  simp(disch:=omega) only[↓pq,↓pj,ps,pz,↓reduceIte,aj,ak,ap,aq,au,av,aw,ax,ay,qq_,hi]
 ·intro q
  simp(disch:=omega) only[↓pq,↓pj,ps,pz,↓reduceIte,aj,ak,ap,aq,au,av,aw,ax,ay,qq_,]
 ·unfold qN xm
  split<;>rfl
theorem Cf{s:List ah}(h:dX s=true){r:ah}(hr:r∈s):fY r=true:=by
 simp only[dX,bk]at h
 obtain⟨i,hi,rfl⟩:=List.mem_iff_getElem.1 hr
 have:=bQ.1 h.2 i hi
 simp only[bk]at this
 rw[<-d_ hi]
 exact this.1
theorem PY{o:Int}{l:List cu}(h:u0 o l=true){x:cu}(hx:x∈l):(1<=x.to∧x.to<=6)∧x.to≠o∧(1<=x.cost∧x.cost<=1000):=by
 obtain⟨i,hi,rfl⟩:=List.mem_iff_getElem.1 hx
 have:=bQ.1 h i hi
 simp only[bk,aW,Bool.not_eq_true',decide_eq_false_iff_not]at this
 rw[<-d_ hi]
 exact⟨this.1.1.1,this.1.1.2,this.1.2⟩
theorem aa0{o:Int}{l:List cu}(h:u0 o l=true):l.Pairwise λa b=>a.to<b.to:=by
 have h:=bQ.1 h
 rw[List.pairwise_iff_getElem]
 have step:∀i,(hi:i+1<l.length)->l[i].to<l[i+1].to:=by
  intro i hi
  have:=h (i+1) hi
  simp only[bk,Bool.or_eq_true,Bool.not_eq_true',decide_eq_false_iff_not,decide_eq_true_eq]at this
  have h2:=this.2.resolve_left (by omega)
  rwa[show(((i+1:Nat):Int)-1)=(i:Int) by omega,d_ (by omega),d_ hi]at h2
 intro i j hi hj qM
 obtain⟨d,rfl⟩:∃d,j=i+1+d:=⟨j-i-1,by omega⟩
 clear qM
 induction d with
 |zero=>exact step i (by omega)
 |succ d ih=>exact Int.lt_trans (ih (by omega)) (step (i+1+d) (by omega))
theorem GS{s:List ah}(h:dX s=true)(ar v:Int):u0 v (rf s ar v)=true:=by
 unfold rf
 by_cases hk:iH s ar v<0
 ·rw[if_pos hk];simp[u0,ln]
 ·rw[if_neg hk]
  have hm:=kO (l:=s) (n:=iH s ar v) (by omega) (Im s ar v)
  have hr:=Cf h hm
  have hs:=uc (λx=>dP x ⟨ar,1,v,0,0,[],0,false⟩) s (by unfold iH at hk;omega)
  rw[<-iH]at hs
  rw[sameKey_iff]at hs
  obtain⟨_,h2,h3,_⟩:=hs
  simp only at h2 h3
  unfold fY at hr
  rw[h2]at hr
  simp only[if_true,bk]at hr
  have hq:=hr.2.1.1.2
  rw[h3]at hq
  exact hq
theorem aa1{l:List cu}{b:Int}(h:∀x∈l,x.to≠b):xm l b=0:=by
 unfold xm
 rw[if_pos]
 rw[C4]
 intro x hx
 simp[h x hx]
theorem asB{l:List cu}{b:Int}(h:xm l b≠0):∃x∈l,x.to=b∧x.cost=xm l b:=by
 unfold xm at h⊢
 split at h
 ·exact absurd rfl h
 ·rename_i hf
  rw[if_neg hf]
  have hs:=uc (λ(y:cu)=>y.to==b) l (by omega)
  simp only[beq_iff_eq]at hs
  exact⟨_,kO (by omega) (ub _ _),hs,rfl⟩
theorem aa2{s:List ah}(h:dX s=true)(ar a b:Int):0<=qN s ar a b∧qN s ar a b<=1000:=by
 unfold qN
 by_cases h0:xm (rf s ar a) b=0
 ·rw[h0];omega
 ·obtain⟨x,hx,_,h2⟩:=asB h0
  have:=PY (GS h ar a) hx
  omega
theorem Io{s:List ah}(h:dX s=true)(ar a b:Int):0<=dE s ar a b∧dE s ar a b<=1000:=by
 unfold dE
 split
 ·omega
 ·exact aa2 h ar a b
def GU(s:List ah)(ar a:Int)(M:List Int)(x:cu):List Int:=if gZ x.to 1 6=true∧qN s ar x.to a>0 then M.set (a*7+x.to).toNat x.cost else M
def yX(s:List ah)(ar:Int)(M:List Int)(i:Nat):List Int:=(rf s ar (i+1)).foldl (GU s ar (i+1)) M
def Cg(s:List ah)(ar:Int):List Int:=(List.range 6).foldl (yX s ar) (List.replicate 49 0)
theorem NY(s:List ah)(ar a:Int)(M:List Int)(x:cu):(GU s ar a M x).length=M.length:=by
 unfold GU;split<;>simp
theorem NZ{α β:Type}{g:List α->β->List α}(h:∀M x,(g M x).length=M.length)(l:List β)(M:List α):(l.foldl g M).length=M.length:=by
 induction l generalizing M with
 |nil=>rfl
 |cons x l ih=>rw[List.foldl_cons,ih,h]
theorem N0(s:List ah)(ar:Int)(M:List Int)(i:Nat):(yX s ar M i).length=M.length:=NZ (NY s ar _) _ _
theorem asC(s:List ah)(ar:Int):(Cg s ar).length=49:=by
 unfold Cg
 rw[NZ (λM i=>N0 s ar M i)]
 simp
theorem asD{s:List ah}(hs:dX s=true)(ar:Int){a:Int}(ha:1<=a∧a<=6){u v:Int}(hu:1<=u∧u<=6)(hv:1<=v∧v<=6){o:Int}:∀(l:List cu) (M:List Int),u0 o l=true∨(l.Pairwise (λa b=>a.to<b.to)∧∀x∈l,1<=x.to∧x.to<=6)->M.length=49->
  gt (l.foldl (GU s ar a) M) (u*7+v)=if u=a∧qN s ar v a>0∧∃x∈l,x.to=v then xm l v else gt M (u*7+v):=by
 intro l M hl hM
 replace hl:l.Pairwise (λa b=>a.to<b.to)∧∀x∈l,1<=x.to∧x.to<=6:=by
  rcases hl with hl|hl
  ·exact⟨aa0 hl,λx hx=>(PY hl hx).1⟩
  ·exact hl
 induction l generalizing M with
 |nil=>simp
 |cons y l ih=>
  have hp:=List.pairwise_cons.1 hl.1
  have hy:=hl.2 y (.head _)
  have hlen:=NY s ar a M y
  rw[List.foldl_cons,ih (GU s ar a M y) (by rw[hlen];exact hM) ⟨hp.2,λx hx=>hl.2 x (.tail _ hx)⟩]
  have kZ:gt (GU s ar a M y) (u*7+v)=if u=a∧v=y.to∧qN s ar y.to a>0 then y.cost else gt M (u*7+v):=by
   unfold GU
   by_cases hc:gZ y.to 1 6=true∧qN s ar y.to a>0
   ·rw[if_pos hc,Cd (by omega) (by omega) (by omega)]
    refine yL ⟨λh=>⟨by omega,by omega,hc.2⟩,λh=>by omega⟩ _ _
   ·rw[if_neg hc,if_neg (λh=>hc ⟨aW.2 hy,h.2.2⟩)]
  rw[kZ]
  by_cases jl:∃x∈l,x.to=v
  ·obtain⟨x,hx,e⟩:=jl
   have dk:¬(v=y.to):=by have:=hp.1 x hx;omega
   have Ch:xm (y::l) v=xm l v:=by
    unfold xm eF
    rw[List.findIdx?_cons]
    have:(y.to==v)=false:=by simp;omega
    rw[this]
    simp only[dS,if_false]
    cases hf:l.findIdx? (λ(z:cu)=>z.to==v)with
    |none=>rfl
    |some k=>
     show(if((k+1:Nat):Int)<0 then 0 else(gt (y::l) ((k+1:Nat):Int)).cost)=if(k:Int)<0 then 0 else(gt l (k:Int)).cost
     rw[if_neg (by omega),if_neg (by omega)]
     rfl
   by_cases xR:u=a∧qN s ar v a>0
   ·rw[if_pos ⟨xR.1,xR.2,x,hx,e⟩,if_pos ⟨xR.1,xR.2,x,.tail _ hx,e⟩,Ch]
   ·rw[if_neg (λh=>xR ⟨h.1,h.2.1⟩),if_neg (λh=>dk h.2.1),if_neg (λh=>xR ⟨h.1,h.2.1⟩)]
  ·rw[if_neg (λh=>jl h.2.2)]
   by_cases hc:u=a∧v=y.to∧qN s ar y.to a>0
   ·rw[if_pos hc,if_pos ⟨hc.1,by rw[hc.2.1];exact hc.2.2,y,.head _,hc.2.1.symm⟩]
    unfold xm eF
    rw[List.findIdx?_cons]
    have:(y.to==v)=true:=by simp;omega
    rw[this]
    rfl
   ·rw[if_neg hc,if_neg]
    rintro⟨h1,h2,x,hx,e⟩
    rcases List.mem_cons.1 hx with rfl|hx
    ·exact hc ⟨h1,e.symm,by rw[e];exact h2⟩
    ·exact jl ⟨x,hx,e⟩
theorem asE{s:List ah}(hs:dX s=true)(ar:Int){i:Nat}(hi:i<6){M:List Int}(hM:M.length=49){u v:Int}(hu:1<=u∧u<=6)(hv:1<=v∧v<=6)(h0:u=(i:Int)+1->gt M (u*7+v)=0):
  gt (yX s ar M i) (u*7+v)=if u=(i:Int)+1 then dE s ar u v else gt M (u*7+v):=by
 unfold yX
 rw[asD (o:=(i:Int)+1) hs ar (by omega) hu hv _ _ (.inl (GS hs ar ((i:Int)+1))) hM]
 by_cases hc:u=(i:Int)+1
 ·rw[if_pos hc,h0 hc]
  unfold dE
  have hb:=aa2 hs ar v u
  by_cases h1:qN s ar v u=0
  ·rw[if_pos h1,if_neg]
   rintro⟨_,h2,_⟩
   rw[<-hc]at h2;omega
  ·rw[if_neg h1]
   by_cases h2:∃x∈rf s ar ((i:Int)+1),x.to=v
   ·rw[if_pos ⟨hc,by rw[<-hc];omega,h2⟩,<-hc];rfl
   ·rw[if_neg (λh=>h2 h.2.2)]
    unfold qN
    rw[aa1]
    intro x hx e
    exact h2 ⟨x,hc▸hx,e⟩
 ·rw[if_neg (λh=>hc h.1),if_neg hc]
theorem asF{s:List ah}(hs:dX s=true)(ar:Int){u v:Int}(hu:1<=u∧u<=6)(hv:1<=v∧v<=6):gt (Cg s ar) (u*7+v)=dE s ar u v:=by
 have key:=KW (l:=List.range 6) (g:=yX s ar) (c:=List.replicate 49 0) (Inv:=λi M=>M.length=49∧∀u v:Int,(1<=u∧u<=6)->(1<=v∧v<=6)->gt M (u*7+v)=if u<(i:Int)+1 then dE s ar u v else 0)
  ⟨by simp,λu v hu hv=>by rw[NW (by omega) (by omega),if_neg (by omega)]⟩ (λi M hi ⟨h1,h2⟩=>by
   have hl:(List.range 6).length=6:=List.length_range
   rw[hl]at hi
   rw[d_ (by rw[hl];omega),List.getElem_range]
   refine⟨by rw[N0];exact h1,λu v hu hv=>?_⟩
   rw[asE hs ar (by omega) h1 hu hv (λe=>by rw[h2 u v hu hv,if_neg (by omega)]),h2 u v hu hv]
   by_cases hc:u=(i:Int)+1
   ·rw[if_pos hc,if_pos (by omega)]
   ·rw[if_neg hc]
    exact yL ⟨λh=>by omega,λh=>by omega⟩ _ _)
 have:=key.2 u v hu hv
 rw[List.length_range,if_pos (by omega)]at this
 exact this
theorem asG(s:List ah)(ar:Int)(h:s.length<=1048576)(hn:bm s)(hs:dX s=true):V8 [.l (s.map aB),ii ar]=some [.l ((Cg s ar).map aD)]:=by
 have e0:=Cc (enc:=aD) (n:=49) (x:=0) (vs:=[ii 0]) (by decide) rfl
 rw[apu];simp only[Mz,TR]
 rw[show Prim.ev .mk [ii 49,ii 49,ii 0]=some (.l ((List.replicate 49 (0:Int)).map aD)) from e0,dU]
 refine ud 6 (λi M=>[ii (i+1),.l (M.map aD)]) (yX s ar) (λM=>some [T.l (M.map aD)]) (List.replicate 49 0) (λ_ M=>M.length=49) rfl (dR (by omega)) (by simp) ?_ ?_
 ·intro i M hi hM
  refine⟨by rw[N0];exact hM,λq=>?_⟩
  have dl:(i:Int)+1<=6:=by omega
  obtain⟨c0,c1,c2,c3,c4,c6,c7,e⟩:=NX s ar ((i:Int)+1) h
  have hl:=aaZ hn ar ((i:Int)+1)
  simp(disch:=omega) only[↓pq,↓pj,ps,pz,↓reduceIte,aj,ak,ap,aq,au,av,aw,ax,ay,vP_,vX_,dl,e]
  refine jc (rf s ar ((i:Int)+1)) (λj M=>[ii j,.l (M.map aD)]) (GU s ar ((i:Int)+1)) (λM=>q [ii ((i+1:Nat)+1),.l (M.map aD)]) M (λ_ M=>M.length=49) rfl (dR hl) hM ?_ ?_
  ·intro j M hj hM
   refine⟨by rw[NY];exact hM,λq=>?_⟩
   have ht:=PY (GS hs ar ((i:Int)+1)) (kO (n:=j) (by omega) hj)
   unfold GU
   have hb:gZ (gt (rf s ar ((i:Int)+1)) j).to 1 6=true:=aW.2 ht.1
   simp(disch:=omega) only[↓pq,↓pj,ps,pz,↓reduceIte,aj,ak,ap,aq,au,av,aw,ax,ay,vP_,vX_,hj,Gu,hb,asA _ _ _ _ h hn,Cb]
   simp only[true_and]
   by_cases hc:qN s ar (gt (rf s ar ((i:Int)+1)) j).to ((i:Int)+1)>0
   ·simp only[hc,if_true]
   ·simp only[hc,if_false]
  ·intro M q' hM
   simp(disch:=omega) only[↓pq,↓pj,ps,pz,↓reduceIte,aj,ak,ap,aq,au,av,aw,ax,ay,vP_,vX_,]
 ·intro M q hM
  simp(disch:=omega) only[↓pq,↓pj,ps,pz,↓reduceIte,aj,ak,ap,aq,au,av,aw,ax,ay,vP_,vX_,]
def sW{α:Type}(f:Nat->α):List α:=(List.range 7).map f
theorem Ci{α:Type}(f:Nat->α):(sW f).length=7:=by simp[sW]
theorem N1{α:Type} [Inhabited α](f:Nat->α){v:Int}(h:0<=v)(h':v<7):gt (sW f) v=f v.toNat:=by
 obtain⟨n,rfl⟩:∃n:Nat,v=n:=⟨v.toNat,by omega⟩
 rw[d_ (by rw[Ci];omega)]
 simp[sW]
theorem PZ{α:Type}{f g:Nat->α}(h:∀i,i<7->f i=g i):sW f=sW g:=by
 unfold sW
 exact List.map_congr_left λi hi=>h i (by simpa using hi)
theorem Cl{α:Type}(f:Nat->α)(n:Nat)(x:α):(sW f).set n x=sW λi=>if i=n then x else f i:=by
 refine List.ext_getElem (by simp[sW]) λi h1 h2=>?_
 simp only[List.getElem_set,sW,List.getElem_map,List.getElem_range]
 by_cases h:n=i
 ·simp[h]
 ·rw[if_neg h,if_neg (λe=>h e.symm)]
def Df(W:List Way)(D:List Int)(b:Int)(i:Nat):Int:=
 if¬((gt W ((i:Int)+1)).to=0)∧D.contains ((i:Int)+1)=false∧(b=0∨(gt W ((i:Int)+1)).cost<(gt W b).cost)then(i:Int)+1 else b
def dW(W:List Way)(D:List Int):Int:=(List.range 6).foldl (Df W D) 0
def mF(s:List ah)(ar fr eg:Int)(W:List Way)(i:Nat):List Way:=
 if dE s ar eg ((i:Int)+1)=0∨(i:Int)+1=fr then W
 else if(gt W ((i:Int)+1)).to=0∨(gt W eg).cost+dE s ar eg ((i:Int)+1)<(gt W ((i:Int)+1)).cost then
  W.set (i+1) ⟨(i:Int)+1,(gt W eg).cost+dE s ar eg ((i:Int)+1),if eg=fr then [(i:Int)+1]else(gt W eg).aG⟩
 else if(gt W eg).cost+dE s ar eg ((i:Int)+1)=(gt W ((i:Int)+1)).cost then
  W.set (i+1) (lY (gt W ((i:Int)+1)) ⟨(i:Int)+1,(gt W eg).cost+dE s ar eg ((i:Int)+1),if eg=fr then [(i:Int)+1]else(gt W eg).aG⟩)
 else W
def pw(s:List ah)(ar fr eg:Int)(W:List Way):List Way:=(List.range 6).foldl (mF s ar fr eg) W
def sX(s:List ah)(ar fr:Int):Nat->List Way->List Int->List Way
 |0,W,_=>W
 |k+1,W,D=>if dW W D=0 then W else sX s ar fr k (pw s ar fr (dW W D) W) (D++[dW W D])
def uv:Way:=⟨0,0,[]⟩
def W0(fr:Int):List Way:=(List.replicate 7 uv).set fr.toNat ⟨fr,0,[]⟩
def yY(W:List Way):List Way:=W.filter λw=>!(w.to==0)
def aC(s:List ah)(ar fr:Int):List Way:=if dX s=true∧gZ fr 1 6=true∧0<=iH s ar fr then yY (sX s ar fr 6 (W0 fr) [])else []
structure nq (W:List Way) (c:Int):Prop where
 len:W.length=7
 aG:∀v:Int,0<=v->v<7->fI (gt W v).aG
 cost:∀v:Int,0<=v->v<7->0<=(gt W v).cost∧(gt W v).cost<=c
 to:∀v:Int,0<=v->v<7->(gt W v).to=0∨(gt W v).to=v
theorem nq.mono{W:List Way}{c c':Int}(h:nq W c)(hc:c<=c'):nq W c':=⟨h.len,h.aG,λv h1 h2=>by have:=h.cost v h1 h2;omega,h.to⟩
theorem sY{W:List Way}{i:Nat}{w:Way}{v:Int}(hl:W.length=7)(hi:i<6)(h0:0<=v):gt (W.set (i+1) w) v=if v=(i:Int)+1 then w else gt W v:=by
 have:=Cd (l:=W) (i:=(i:Int)+1) (j:=v) (x:=w) (by omega) (by omega) h0
 rw[show((i:Int)+1).toNat=i+1 by omega]at this
 rw[this]
 exact yL ⟨λh=>h.symm,λh=>h.symm⟩ _ _
theorem N2{a b:Way}(ha:fI a.aG)(hb:fI b.aG):fI (lY a b).aG:=by
 unfold lY
 split
 ·exact ha
 ·split
  ·exact hb
  ·exact GH _ _
theorem yZ(a b:Way):(lY a b).cost=a.cost∨(lY a b).cost=b.cost:=by
 unfold lY
 split
 ·exact .inl rfl
 ·split
  ·exact .inr rfl
  ·exact .inl rfl
theorem v_{a b:Way}{n:Int}(ha:a.to=n)(hb:b.to=n):(lY a b).to=n:=by
 unfold lY
 split
 ·exact ha
 ·split
  ·exact hb
  ·exact ha
theorem GV{s:List ah}(hs:dX s=true)(ar a:Int):dE s ar a a=0:=by
 have:qN s ar a a=0:=by
  unfold qN
  refine aa1 λx hx=>?_
  exact(PY (GS hs ar a) hx).2.1
 unfold dE
 rw[this];rfl
theorem GW{s:List ah}(hs:dX s=true)(ar fr:Int){eg:Int}(ha:1<=eg∧eg<=6){W:List Way}{c:Int}(hc:0<=c)(h:nq W (c+1000))(bE:(gt W eg).cost<=c){i:Nat}(hi:i<6):
  nq (mF s ar fr eg W i) (c+1000)∧gt (mF s ar fr eg W i) eg=gt W eg:=by
 have hb:=Io hs ar eg ((i:Int)+1)
 have hz:=h.cost eg (by omega) (by omega)
 have ho:=h.cost ((i:Int)+1) (by omega) (by omega)
 have sJ:=h.aG ((i:Int)+1) (by omega) (by omega)
 have gJ:fI (if eg=fr then [(i:Int)+1]else(gt W eg).aG):=by
  split
  ·exact Ij (by omega) (by omega)
  ·exact h.aG eg (by omega) (by omega)
 have kZ:∀w:Way,w.to=(i:Int)+1->fI w.aG->0<=w.cost->w.cost<=c+1000->¬(dE s ar eg ((i:Int)+1)=0)->nq (W.set (i+1) w) (c+1000)∧gt (W.set (i+1) w) eg=gt W eg:=by
  intro w h1 h2 h3 h4 h5
  have dk:¬(eg=(i:Int)+1):=by intro e;rw[<-e,GV hs]at h5;exact h5 rfl
  refine⟨⟨by simp[h.len],λv h6 h7=>?_,λv h6 h7=>?_,λv h6 h7=>?_⟩,?_⟩
  ·rw[sY h.len hi h6];split
   ·exact h2
   ·exact h.aG v h6 h7
  ·rw[sY h.len hi h6];split
   ·exact⟨h3,h4⟩
   ·exact h.cost v h6 h7
  ·rw[sY h.len hi h6];split
   ·rename_i e;rw[e,h1];exact .inr rfl
   ·exact h.to v h6 h7
  ·rw[sY h.len hi (by omega),if_neg dk]
 unfold mF
 by_cases h1:dE s ar eg ((i:Int)+1)=0∨(i:Int)+1=fr
 ·rw[if_pos h1];exact⟨h,rfl⟩
 rw[if_neg h1]
 by_cases h2:(gt W ((i:Int)+1)).to=0∨(gt W eg).cost+dE s ar eg ((i:Int)+1)<(gt W ((i:Int)+1)).cost
 ·rw[if_pos h2]
  exact kZ _ rfl gJ (by show 0<=(gt W eg).cost+_;omega) (by show(gt W eg).cost+_<=_;omega) (λe=>h1 (.inl e))
 rw[if_neg h2]
 by_cases h3:(gt W eg).cost+dE s ar eg ((i:Int)+1)=(gt W ((i:Int)+1)).cost
 ·rw[if_pos h3]
  have oJ:=(h.to ((i:Int)+1) (by omega) (by omega)).resolve_left (λe=>h2 (.inl e))
  have htc:(lY (gt W ((i:Int)+1)) ⟨(i:Int)+1,(gt W eg).cost+dE s ar eg ((i:Int)+1),if eg=fr then [(i:Int)+1]else(gt W eg).aG⟩).cost=(gt W ((i:Int)+1)).cost:=by
   rcases yZ (gt W ((i:Int)+1)) ⟨(i:Int)+1,(gt W eg).cost+dE s ar eg ((i:Int)+1),if eg=fr then [(i:Int)+1]else(gt W eg).aG⟩with e|e
   ·exact e
   ·rw[e];exact h3
  exact kZ _ (v_ oJ rfl) (N2 sJ gJ) (by rw[htc];omega) (by rw[htc];omega) (λe=>h1 (.inl e))
 ·rw[if_neg h3];exact⟨h,rfl⟩
theorem asH{s:List ah}(hs:dX s=true)(ar fr:Int){eg:Int}(ha:1<=eg∧eg<=6){W:List Way}{c:Int}(hc:0<=c)(h:nq W c):nq (pw s ar fr eg W) (c+1000)∧gt (pw s ar fr eg W) eg=gt W eg:=by
 have hl:(List.range 6).length=6:=List.length_range
 exact KW (l:=List.range 6) (g:=mF s ar fr eg) (c:=W) (Inv:=λ_ W'=>nq W' (c+1000)∧gt W' eg=gt W eg) ⟨h.mono (by omega),rfl⟩ λi W' hi ⟨h1,h2⟩=>by
  rw[hl]at hi
  rw[d_ (by rw[hl];omega),List.getElem_range]
  obtain⟨h3,h4⟩:=GW hs ar fr ha hc h1 (by rw[h2];exact(h.cost eg (by omega) (by omega)).2) (show i<6 by omega)
  exact⟨h3,h4.trans h2⟩
theorem Cm(W:List Way)(D:List Int):(dW W D=0∧∀u:Int,1<=u->u<=6->(gt W u).to≠0->u∈D)∨
  ((1<=dW W D∧dW W D<=6)∧(gt W (dW W D)).to≠0∧dW W D∉D∧∀u:Int,1<=u->u<=6->(gt W u).to≠0->u∉D->(gt W (dW W D)).cost<=(gt W u).cost):=by
 have hl:(List.range 6).length=6:=List.length_range
 have key:=KW (l:=List.range 6) (g:=Df W D) (c:=0) (Inv:=λi b=>(b=0∧∀u:Int,1<=u->u<=i->(gt W u).to≠0->u∈D)∨
  ((1<=b∧b<=i)∧(gt W b).to≠0∧b∉D∧∀u:Int,1<=u->u<=i->(gt W u).to≠0->u∉D->(gt W b).cost<=(gt W u).cost)) (.inl ⟨rfl,λu h1 h2=>by omega⟩) λi b hi hb=>by
   rw[hl]at hi
   rw[d_ (by rw[hl];omega),List.getElem_range]
   unfold Df
   have hD:∀x:Int,D.contains x=false↔x∉D:=λx=>by rw[<-Bool.not_eq_true,List.contains_iff_mem]
   by_cases hc:¬((gt W ((i:Int)+1)).to=0)∧D.contains ((i:Int)+1)=false∧(b=0∨(gt W ((i:Int)+1)).cost<(gt W b).cost)
   ·rw[if_pos hc]
    refine .inr ⟨by omega,hc.1,(hD _).1 hc.2.1,λu h1 h2 h3 h4=>?_⟩
    by_cases hu:u=(i:Int)+1
    ·rw[hu];exact Int.le_refl _
    ·rcases hb with⟨hb,oF⟩|⟨ma,oF,P0,hb4⟩
     ·exact absurd (oF u h1 (by omega) h3) h4
     ·have:=hb4 u h1 (by omega) h3 h4
      rcases hc.2.2 with h5|h5
      ·omega
      ·omega
   ·rw[if_neg hc]
    rcases hb with⟨hb,oF⟩|⟨ma,oF,P0,hb4⟩
    ·refine .inl ⟨hb,λu h1 h2 h3=>?_⟩
     by_cases hu:u=(i:Int)+1
     ·subst hu
      by_cases hm:(i:Int)+1∈D
      ·exact hm
      ·exact absurd ⟨h3,(hD _).2 hm,.inl hb⟩ hc
     ·exact oF u h1 (by omega) h3
    ·refine .inr ⟨by omega,oF,P0,λu h1 h2 h3 h4=>?_⟩
     by_cases hu:u=(i:Int)+1
     ·subst hu
      have:¬((gt W ((i:Int)+1)).cost<(gt W b).cost):=λh5=>hc ⟨h3,(hD _).2 h4,.inr h5⟩
      omega
     ·exact hb4 u h1 (by omega) h3 h4
 rw[hl]at key
 exact key
structure ig (fr:Int) (W:List Way) (D:List Int):Prop where
 ok:nq W (1000*D.length)
 fr6:1<=fr∧fr<=6
 nd:D.Nodup
 mem:∀v∈D,(1<=v∧v<=6)∧(gt W v).to≠0
 mono:∀v∈D,∀u:Int,1<=u->u<=6->u∉D->(gt W u).to≠0->(gt W v).cost<=(gt W u).cost
 first:(D=[]∧∀u:Int,1<=u->u<=6->(gt W u).to≠0->u=fr)∨fr∈D
theorem asJ{D l:List Int}(hn:D.Nodup)(hm:∀v∈D,v∈l):D.length<=l.length:=by
 induction D generalizing l with
 |nil=>simp
 |cons x D ih=>
  have hx:=List.nodup_cons.1 hn
  have hl:=List.length_erase_of_mem (hm x (.head _))
  have hp:0<l.length:=List.length_pos_of_mem (hm x (.head _))
  have:=ih (l:=l.erase x) hx.2 λv hv=>(List.mem_erase_of_ne (show v≠x fromλe=>hx.1 (e▸hv))).2 (hm v (.tail _ hv))
  simp only[List.length_cons];omega
theorem aa3{D:List Int}(hn:D.Nodup)(hm:∀v∈D,1<=v∧v<=6):D.length<=6:=
 asJ (l:=v9) hn λv hv=>ju.2 (hm v hv)
theorem uw{fr:Int}(h:1<=fr∧fr<=6){v:Int}(h0:0<=v)(h7:v<7):gt (W0 fr) v=if fr=v then⟨fr,0,[]⟩else uv:=by
 unfold W0
 rw[Cd (by omega) (by simp;omega) h0]
 split
 ·rfl
 ·exact NW h0 (by omega)
theorem ig.start{fr:Int}(h:1<=fr∧fr<=6):ig fr (W0 fr) []:=by
 refine⟨⟨by simp[W0],λv h0 h7=>?_,λv h0 h7=>?_,λv h0 h7=>?_⟩,h,.nil,by simp,by simp,.inl ⟨rfl,λu h1 h2 h3=>?_⟩⟩
 ·rw[uw h h0 h7];split<;>exact aaT
 ·rw[uw h h0 h7];split<;>simp[uv]
 ·rw[uw h h0 h7];split
  ·rename_i e;exact .inr e
  ·exact .inl rfl
 ·rw[uw h (by omega) (by omega)]at h3
  split at h3
  ·rename_i e;exact e.symm
  ·exact absurd rfl h3
theorem asK{s:List ah}(hs:dX s=true)(ar fr:Int){eg:Int}(ha:1<=eg∧eg<=6){W:List Way}{c:Int}(hc:0<=c)(h:nq W c){v:Int}(hv:1<=v∧v<=6):
  gt (pw s ar fr eg W) v=gt W v∨((gt (pw s ar fr eg W) v).to=v∧v≠fr∧¬(dE s ar eg v=0)∧((gt W v).to=0∨(gt W eg).cost+dE s ar eg v<=(gt W v).cost)∧(gt (pw s ar fr eg W) v).cost=(gt W eg).cost+dE s ar eg v):=by
 have hl:(List.range 6).length=6:=List.length_range
 have key:=KW (l:=List.range 6) (g:=mF s ar fr eg) (c:=W) (Inv:=λi W'=>nq W' (c+1000)∧gt W' eg=gt W eg∧(∀u:Int,(i:Int)<u->u<=6->gt W' u=gt W u)∧∀u:Int,1<=u->u<=i->gt W' u=gt W u∨((gt W' u).to=u∧u≠fr∧¬(dE s ar eg u=0)∧((gt W u).to=0∨(gt W eg).cost+dE s ar eg u<=(gt W u).cost)∧(gt W' u).cost=(gt W eg).cost+dE s ar eg u))
  ⟨h.mono (by omega),rfl,λu _ _=>rfl,λu h1 h2=>by omega⟩ λi W' hi ⟨h1,h2,h3,h4⟩=>by
  rw[hl]at hi
  rw[d_ (by rw[hl];omega),List.getElem_range]
  have nI:i<6:=by omega
  obtain⟨h5,h6⟩:=GW hs ar fr ha hc h1 (by rw[h2];exact(h.cost eg (by omega) (by omega)).2) nI
  refine⟨h5,h6.trans h2,λu h7 h8=>?_,λu h7 h8=>?_⟩
  ·rw[<-h3 u (by omega) h8]
   unfold mF
   split
   ·rfl
   ·split
    ·rw[sY h1.len nI (by omega),if_neg (by omega)]
    ·split
     ·rw[sY h1.len nI (by omega),if_neg (by omega)]
     ·rfl
  ·by_cases hu:u=(i:Int)+1
   ·subst hu
    have hold:=h3 ((i:Int)+1) (by omega) (by omega)
    unfold mF
    rw[hold,h2]
    by_cases q1:dE s ar eg ((i:Int)+1)=0∨(i:Int)+1=fr
    ·rw[if_pos q1];exact .inl hold
    rw[if_neg q1]
    by_cases q2:(gt W ((i:Int)+1)).to=0∨(gt W eg).cost+dE s ar eg ((i:Int)+1)<(gt W ((i:Int)+1)).cost
    ·rw[if_pos q2,sY h1.len nI (by omega),if_pos rfl]
     exact .inr ⟨rfl,λe=>q1 (.inr e),λe=>q1 (.inl e),q2.imp_right (λe=>by omega),rfl⟩
    rw[if_neg q2]
    by_cases q3:(gt W eg).cost+dE s ar eg ((i:Int)+1)=(gt W ((i:Int)+1)).cost
    ·rw[if_pos q3,sY h1.len nI (by omega),if_pos rfl]
     have oJ:=(h.to ((i:Int)+1) (by omega) (by omega)).resolve_left (λe=>q2 (.inl e))
     refine .inr ⟨v_ oJ rfl,λe=>q1 (.inr e),λe=>q1 (.inl e),.inr (by omega),?_⟩
     ·rcases yZ (gt W ((i:Int)+1)) ⟨(i:Int)+1,(gt W eg).cost+dE s ar eg ((i:Int)+1),if eg=fr then [(i:Int)+1]else(gt W eg).aG⟩with e|e
      ·rw[e];omega
      ·rw[e]
    ·rw[if_neg q3];exact .inl hold
   ·have hk:gt (mF s ar fr eg W' i) u=gt W' u:=by
     unfold mF
     split
     ·rfl
     ·split
      ·rw[sY h1.len nI (by omega),if_neg hu]
      ·split
       ·rw[sY h1.len nI (by omega),if_neg hu]
       ·rfl
    rw[hk]
    exact h4 u h7 (by omega)
 rw[hl]at key
 exact key.2.2.2 v hv.1 hv.2
theorem ig.step{s:List ah}(hs:dX s=true)(ar:Int){fr:Int}{W:List Way}{D:List Int}(h:ig fr W D)(hb:dW W D≠0):ig fr (pw s ar fr (dW W D) W) (D++[dW W D]):=by
 obtain⟨h1,h2,h3,h4⟩:=(Cm W D).resolve_left λe=>hb e.1
 have hc:(0:Int)<=1000*D.length:=by omega
 obtain⟨g1,g2⟩:=asH hs ar fr h1 hc h.ok
 have Ar:=λv hv=>asK hs ar fr h1 hc h.ok (v:=v) hv
 have hold:∀v∈D,gt (pw s ar fr (dW W D) W) v=gt W v:=by
  intro v hv
  rcases Ar v (h.mem v hv).1 with e|⟨_,_,e1,e2,_⟩
  ·exact e
  ·have hm:=h.mono v hv _ h1.1 h1.2 h3 h2
   have hk:=Io hs ar (dW W D) v
   rcases e2 with e2|e2
   ·exact absurd e2 (h.mem v hv).2
   ·omega
 refine⟨?_,h.fr6,?_,λv hv=>?_,λv hv u OU xR hu3 hu4=>?_,?_⟩
 ·refine g1.mono ?_
  simp only[List.length_append,List.length_singleton,Bp,Bq];omega
 ·rw[List.nodup_append]
  exact⟨h.nd,by simp,by intro a ha b jz;rw[List.mem_singleton]at jz;subst jz;intro e;exact h3 (e▸ha)⟩
 ·rcases List.mem_append.1 hv with hv|hv
  ·rw[hold v hv];exact h.mem v hv
  ·rw[List.mem_singleton]at hv
   subst hv
   rw[g2];exact⟨h1,h2⟩
 ·have asL:u∉D∧u≠dW W D:=by simpa using hu3
  have hcv:(gt (pw s ar fr (dW W D) W) v).cost<=(gt W (dW W D)).cost:=by
   rcases List.mem_append.1 hv with hv|hv
   ·rw[hold v hv];exact h.mono v hv _ h1.1 h1.2 h3 h2
   ·rw[List.mem_singleton]at hv;subst hv;rw[g2];exact Int.le_refl _
  rcases Ar u ⟨OU,xR⟩with e|⟨_,_,_,_,e⟩
  ·rw[e]at hu4⊢
   have:=h4 u OU xR hu4 asL.1
   omega
  ·have hk:=Io hs ar (dW W D) u
   omega
 ·right
  rcases h.first with⟨e,hf⟩|hf
  ·rw[hf _ h1.1 h1.2 h2];simp
  ·simp[hf]
theorem ig.full{fr:Int}{W:List Way}{D:List Int}(h:ig fr W D)(hd:D.length=6):dW W D=0:=by
 rcases Cm W D with e|⟨h1,h2,h3,_⟩
 ·exact e.1
 ·have hn:(dW W D::D).Nodup:=List.nodup_cons.2 ⟨h3,h.nd⟩
  have:=aa3 hn λv hv=>by
   rcases List.mem_cons.1 hv with rfl|hv
   ·exact h1
   ·exact(h.mem v hv).1
  simp at this;omega
theorem ig.len{fr:Int}{W:List Way}{D:List Int}(h:ig fr W D):D.length<=6:=aa3 h.nd λv hv=>(h.mem v hv).1
theorem asM{s:List ah}(hs:dX s=true){ar fr:Int}{F:af->af}(stf:List Way->List Int->List T)(out:List Way->List Int->Option (List T))
  (hF:∀W D q,ig fr W D->F q (stf W D)=if dW W D=0 then out W D else q (stf (pw s ar fr (dW W D) W) (D++[dW W D])))
  (fin:∀W D,ig fr W D->dW W D=0->out W D=some [.l ((yY W).map aZ)]):
  ∀k W D R,ig fr W D->D.length+k=6->k<R->iter F R (stf W D)=some [.l ((yY (sX s ar fr k W D)).map aZ)]:=by
 intro k
 induction k with
 |zero=>
  intro W D R h hk hR
  cases R with
  |zero=>omega
  |succ R=>
   have hb:=h.full (by omega)
   unfold iter
   rw[hF W D _ h,if_pos hb,fin W D h hb];rfl
 |succ k ih=>
  intro W D R h hk hR
  cases R with
  |zero=>omega
  |succ R=>
   unfold iter
   rw[hF W D _ h]
   by_cases hb:dW W D=0
   ·rw[if_pos hb,fin W D h hb]
    unfold sX
    rw[if_pos hb]
   ·rw[if_neg hb,ih _ _ R (h.step hs ar hb) (by simp;omega) (by omega)]
    conv=>rhs;unfold sX
    rw[if_neg hb]
theorem asO(W:List Way):(yY W).length<=W.length:=List.length_filter_le _ _
set_option maxHeartbeats 1600000 in
theorem N3(s:List ah)(ar fr:Int)(h:s.length<=1048576)(hn:bm s):FQ [.l (s.map aB),ii ar,ii fr]=some [.l ((aC s ar fr).map aZ)]:=by
 have hP:=Im s ar fr
 rw[aro];simp(disch:=omega) only[↓pq,↓pj,ps,pz,↓reduceIte,aj,ak,ap,aq,au,av,aw,ax,ay,sQ,sR,sS,sT,Nu,aaF _ h hn,uu,NO]
 rw[<-iH]
 unfold aC
 cases hs:dX s with
 |false=>simp
 |true=>
 cases h6:gZ fr 1 6 with
 |false=>simp
 |true=>
 have h6':=aW.1 h6
 by_cases hp:iH s ar fr<0
 ·have hq:¬(0<=iH s ar fr):=by omega
  simp[hp,hq]
 have hq:0<=iH s ar fr:=by omega
 rw[if_pos (show(true=true∧true=true∧0<=iH s ar fr) from⟨rfl,rfl,hq⟩)]
 have hm:=Cc (enc:=aZ) (n:=7) (x:=uv) (vs:=[ii 0,ii 0,.l []]) (by decide) rfl
 have hl7:(List.replicate 7 uv).length=7:=by simp
 have be:fr<((List.replicate 7 uv).length:Int):=by rw[hl7];omega
 have kt:Prim.ev (.put true 3 0 1) [.l ((List.replicate 7 uv).map aZ),ii fr,ii fr]=some (.l ((W0 fr).map aZ)):=by
  rw[asu (by omega) be,NW (by omega) (by omega)];rfl
 simp only[not_true_eq_false,if_false,hp]
 rw[show Prim.ev .mk [ii 7,ii 7,ii 0,ii 0,.l []]=some (.l ((List.replicate 7 uv).map aZ)) from hm,dU,T3 (by omega) be,dU,kt,dU]
 refine asM hs (λW D=>[.l (D.map aD),.l (W.map aZ)]) (λW D=>some [.l ((yY W).map aZ)]) ?_ (λW D _ _=>rfl) 6 (W0 fr) [] rounds (ig.start h6') rfl (by unfold rounds;omega)
 intro W D q hI
 simp(disch:=omega) only[↓pq,↓pj,ps,pz,↓reduceIte,aj,ak,ap,aq,au,av,aw,ax,ay,sQ,sR,sS,sT,]
 have hW:=hI.ok
 have hWl:=hW.len
 have hD:=hI.len
 have hc:∀v:Int,0<=v->v<7->0<=(gt W v).cost∧(gt W v).cost<=6000:=λv h0 h1=>by have:=hW.cost v h0 h1;omega
 refine ud 6 (λi b=>[ii b,ii (i+1)]) (Df W D) (λb=>if b=0 then some [T.l ((yY W).map aZ)]else q [T.l ((D++[b]).map aD),T.l ((pw s ar fr b W).map aZ)]) 0 (λi b=>0<=b∧b<=6∧((i:Int)<=6->b≠0->(gt W b).to≠0)) rfl (dR (by omega)) (by simp) ?_ ?_ |>.trans (by rfl)
 ·intro i b hi ⟨HI,P1,iK⟩
  refine⟨?_,λw=>?_⟩
  ·unfold Df
   split
   ·rename_i hx;exact⟨by omega,by omega,λ_ _=>hx.1⟩
   ·exact⟨HI,P1,λh1=>iK (by omega)⟩
  ·have dl:(i:Int)+1<=6:=by omega
   simp(disch:=omega) only[↓pq,↓pj,ps,pz,↓reduceIte,aj,ak,ap,aq,au,av,aw,ax,ay,sQ,sR,sS,sT,dl,xk _ _ (show D.length<=1048576 by omega)]
   unfold Df
   cases Dg:D.contains ((i:Int)+1)<;>by_cases q1:(gt W ((i:Int)+1)).to=0<;>by_cases q2:b=0<;>by_cases q3:(gt W ((i:Int)+1)).cost<(gt W b).cost<;>simp[q1,q2,q3]
 ·intro b w ⟨HI,P1,iK⟩
  simp(disch:=omega) only[↓pq,↓pj,ps,pz,↓reduceIte,aj,ak,ap,aq,au,av,aw,ax,ay,sQ,sR,sS,sT,]
  by_cases hb:b=0
  ·simp only[hb,if_true]
   have hz:Prim.ev .len [.l (W.map aZ)]=some (ii W.length):=E3
   refine(jc W (λi c=>[.l (c.map aZ),ii i,.l (gg aZ W i)]) (λc w=>if(!(w.to==0))=true then c++[w]else c) (λc=>some [T.l (c.map aZ)]) [] (λi c=>c.length<=i) rfl (dR (by omega)) (by simp) ?_ ?_).trans (by rw[KY,List.nil_append,<-yY])
   ·intro i c hi oK
    refine⟨by split<;>(try simp)<;>omega,λw=>?_⟩
    have dl:i<W.length:=by omega
    simp(disch:=omega) only[↓pq,↓pj,ps,pz,↓reduceIte,aj,ak,ap,aq,au,av,aw,ax,ay,sQ,sR,sS,sT,hi,asw (enc:=aZ) (λ_=>rfl) dl]
    by_cases q1:(gt W (i:Int)).to=0<;>simp[q1]
   ·intro c w oK
    simp(disch:=omega) only[↓pq,↓pj,ps,pz,↓reduceIte,aj,ak,ap,aq,au,av,aw,ax,ay,sQ,sR,sS,sT,]
  ·simp only[hb,if_false]
   have ma:1<=b∧b<=6:=by omega
   refine ud 6 (λi W=>[ii (i+1),.l (W.map aZ)]) (mF s ar fr b) (λW'=>q [T.l ((D++[b]).map aD),T.l (W'.map aZ)]) W (λ_ W'=>nq W' (1000*D.length+1000)∧gt W' b=gt W b) rfl (dR (by omega)) ⟨hW.mono (by omega),rfl⟩ ?_ ?_
   ·intro i W' hi ⟨sL,nS⟩
    have oI:=hW.cost b (by omega) (by omega)
    have cm:=GW hs ar fr ma (by omega) sL (by rw[nS];exact oI.2) (show i<6 by omega)
    refine⟨⟨cm.1,cm.2.trans nS⟩,λw=>?_⟩
    have dl:(i:Int)+1<=6:=by omega
    have ke:=sL.len
    have OZ:=Io hs ar b ((i:Int)+1)
    have asQ:=sL.cost b (by omega) (by omega)
    have asR:=sL.cost ((i:Int)+1) (by omega) (by omega)
    have GX:=sL.aG b (by omega) (by omega)
    have sJ:=sL.aG ((i:Int)+1) (by omega) (by omega)
    have hhl:=sm GX
    have gJ:fI (if b=fr then [(i:Int)+1]else(gt W' b).aG):=by
     split
     ·exact Ij (by omega) (by omega)
     ·exact GX
    have ux:((i:Int)+1).toNat=i+1:=by omega
    have hT1:=λc=>qP_ (gt W' ((i:Int)+1)).to (gt W' ((i:Int)+1)).cost (gt W' ((i:Int)+1)).aG ((i:Int)+1) c [(i:Int)+1] sJ (Ij (by omega) (by omega))
    have hT2:=λc=>qP_ (gt W' ((i:Int)+1)).to (gt W' ((i:Int)+1)).cost (gt W' ((i:Int)+1)).aG ((i:Int)+1) c (gt W' b).aG sJ GX
    unfold mF
    by_cases q1:dE s ar b ((i:Int)+1)=0
    ·simp(disch:=omega) only[↓pq,↓pj,ps,pz,↓reduceIte,aj,ak,ap,aq,au,av,aw,ax,ay,sQ,sR,sS,sT,dl,De _ _ _ _ h hn,q1,true_or]
    by_cases q2:(i:Int)+1=fr
    ·simp(disch:=omega) only[↓pq,↓pj,ps,pz,↓reduceIte,aj,ak,ap,aq,au,av,aw,ax,ay,sQ,sR,sS,sT,dl,De _ _ _ _ h hn,q1,eq_true q2,or_true]
    by_cases q3:b=fr
    ·have GY:=eq_true q3
     by_cases q4:(gt W' ((i:Int)+1)).to=0
     ·simp(disch:=omega) only[↓pq,↓pj,ps,pz,↓reduceIte,aj,ak,ap,aq,au,av,aw,ax,ay,sQ,sR,sS,sT,dl,De _ _ _ _ h hn,q1,q2,GY,q4,re _ (show(gt W' b).aG.length<=1048576 by omega),yW,GQ,ux,true_or]
     by_cases q5:(gt W' b).cost+dE s ar b ((i:Int)+1)<(gt W' ((i:Int)+1)).cost
     ·simp(disch:=omega) only[↓pq,↓pj,ps,pz,↓reduceIte,aj,ak,ap,aq,au,av,aw,ax,ay,sQ,sR,sS,sT,dl,De _ _ _ _ h hn,q1,q2,GY,q4,q5,re _ (show(gt W' b).aG.length<=1048576 by omega),yW,GQ,ux,or_true]
     by_cases q6:(gt W' b).cost+dE s ar b ((i:Int)+1)=(gt W' ((i:Int)+1)).cost
     ·simp(disch:=omega) only[↓pq,↓pj,ps,pz,↓reduceIte,aj,ak,ap,aq,au,av,aw,ax,ay,sQ,sR,sS,sT,dl,De _ _ _ _ h hn,q1,q2,GY,q4,q5,q6,re _ (show(gt W' b).aG.length<=1048576 by omega),hT1,aZ,yW,GQ,ux,or_self]
     ·simp(disch:=omega) only[↓pq,↓pj,ps,pz,↓reduceIte,aj,ak,ap,aq,au,av,aw,ax,ay,sQ,sR,sS,sT,dl,De _ _ _ _ h hn,q1,q2,GY,q4,q5,q6,re _ (show(gt W' b).aG.length<=1048576 by omega),or_self]
    ·have GY:=eq_false q3
     by_cases q4:(gt W' ((i:Int)+1)).to=0
     ·simp(disch:=omega) only[↓pq,↓pj,ps,pz,↓reduceIte,aj,ak,ap,aq,au,av,aw,ax,ay,sQ,sR,sS,sT,dl,De _ _ _ _ h hn,q1,q2,GY,q4,re _ (show(gt W' b).aG.length<=1048576 by omega),yW,GQ,ux,true_or]
     by_cases q5:(gt W' b).cost+dE s ar b ((i:Int)+1)<(gt W' ((i:Int)+1)).cost
     ·simp(disch:=omega) only[↓pq,↓pj,ps,pz,↓reduceIte,aj,ak,ap,aq,au,av,aw,ax,ay,sQ,sR,sS,sT,dl,De _ _ _ _ h hn,q1,q2,GY,q4,q5,re _ (show(gt W' b).aG.length<=1048576 by omega),yW,GQ,ux,or_true]
     by_cases q6:(gt W' b).cost+dE s ar b ((i:Int)+1)=(gt W' ((i:Int)+1)).cost
     ·simp(disch:=omega) only[↓pq,↓pj,ps,pz,↓reduceIte,aj,ak,ap,aq,au,av,aw,ax,ay,sQ,sR,sS,sT,dl,De _ _ _ _ h hn,q1,q2,GY,q4,q5,q6,re _ (show(gt W' b).aG.length<=1048576 by omega),hT2,aZ,yW,GQ,ux,or_self]
     ·simp(disch:=omega) only[↓pq,↓pj,ps,pz,↓reduceIte,aj,ak,ap,aq,au,av,aw,ax,ay,sQ,sR,sS,sT,dl,De _ _ _ _ h hn,q1,q2,GY,q4,q5,q6,re _ (show(gt W' b).aG.length<=1048576 by omega),or_self]
   ·intro W' w _
    simp(disch:=omega) only[↓pq,↓pj,ps,pz,↓reduceIte,aj,ak,ap,aq,au,av,aw,ax,ay,sQ,sR,sS,sT,]
theorem Cn:v9=(List.range 6).map λi:Nat=>(i:Int)+1:=rfl
theorem GZ(a b:List Int)(ha:a.length<=1048576)(hb:b.length<=1048576):FF [.l (a.map aD),.l (b.map aD)]=some [.l ((yV a b).map aD)]:=by
 rw[apy];simp(disch:=omega) only[↓pq,↓pj,ps,pz,↓reduceIte,aj,ak,ap,aq,au,av,aw,ax,ay,jT_,MB]
 refine(ud 6 (λi c=>[.l (c.map aD),ii (i+1)]) (λc i=>if(a.contains ((i:Int)+1)||b.contains ((i:Int)+1))=true then c++[(i:Int)+1]else c) (λc=>some [T.l (c.map aD)]) [] (λi c=>c.length<=i) rfl (dR (by omega)) (by simp) ?_ ?_).trans ?_
 ·intro i c hi hc
  refine⟨by split<;>(try simp)<;>omega,λq=>?_⟩
  have dl:(i:Int)+1<=6:=by omega
  cases h1:a.contains ((i:Int)+1)<;>cases h2:b.contains ((i:Int)+1)<;>simp(disch:=omega) only[↓pq,↓pj,ps,pz,↓reduceIte,aj,ak,ap,aq,au,av,aw,ax,ay,jT_,dl,aaU _ _ ha,aaU _ _ hb,h1,h2,Bool.or_true,Bool.or_false,dS]
 ·intro c q hc
  simp(disch:=omega) only[↓pq,↓pj,ps,pz,↓reduceIte,aj,ak,ap,aq,au,av,aw,ax,ay,jT_,]
 ·rw[KV (λi:Nat=>a.contains ((i:Int)+1)||b.contains ((i:Int)+1)) (λi:Nat=>(i:Int)+1),List.nil_append]
  unfold yV
  rw[Cn,List.filter_map]
  rfl
theorem asS(a b:Int)(t:T)(a' b':Int)(t':T):Wm [ii a,ii b,t,ii a',ii b',t']=some [bb (decide (b<b'))]:=by
 rw[apG];simp(disch:=omega) only[↓pq,↓pj,ps,pz,↓reduceIte,aj,ak,ap,aq,au,av,aw,ax,ay,MG]
theorem aa6(a b:Int)(l:List Int)(a' b':Int)(l':List Int)(h:l.length<=1048576)(h':l'.length<=1048576):Li [ii a,ii b,.l (l.map aD),ii a',ii b',.l (l'.map aD)]=some (aZ (lY ⟨a,b,l⟩ ⟨a',b',l'⟩)):=by
 rw[apI];simp(disch:=omega) only[↓pq,↓pj,ps,pz,↓reduceIte,aj,ak,ap,aq,au,av,aw,ax,ay,MH,asS,NR _ _ _ h,NR _ _ _ h',GZ _ _ h h']
 unfold lY
 by_cases h1:b<b'
 ·have h2:b'>b:=h1
  simp only[h1,h2,if_true];rfl
 ·have h2:¬(b'>b):=h1
  by_cases h3:b'<b
  ·have h4:b>b':=h3
   simp only[h1,h2,h3,h4,if_true,if_false];rfl
  ·have h4:¬(b>b'):=h3
   simp only[h1,h2,h3,h4,if_false];rfl
def sn(W:List Way):List Int:=sW λi=>if i=0 then 0 else if(gt W (i:Int)).to=0 then -1 else(gt W (i:Int)).cost
def u9(W:List Way):List (List Int):=sW λi=>(gt W (i:Int)).aG
def xn(D:List Int):List Bool:=sW λi=>D.contains (i:Int)
theorem Co(W:List Way){v:Int}(h:1<=v)(h':v<=6):gt (sn W) v=if(gt W v).to=0 then -1 else(gt W v).cost:=by
 unfold sn
 rw[N1 _ (by omega) (by omega),if_neg (by omega),show((v.toNat:Nat):Int)=v by omega]
theorem N4(W:List Way){v:Int}(h:0<=v)(h':v<=6):gt (u9 W) v=(gt W v).aG:=by
 unfold u9
 rw[N1 _ h (by omega),show((v.toNat:Nat):Int)=v by omega]
theorem N5(D:List Int){v:Int}(h:0<=v)(h':v<=6):gt (xn D) v=D.contains v:=by
 unfold xn
 rw[N1 _ h (by omega),show((v.toNat:Nat):Int)=v by omega]
theorem N6(W:List Way):(sn W).length=7:=Ci _
theorem N7(W:List Way):(u9 W).length=7:=Ci _
theorem N8(D:List Int):(xn D).length=7:=Ci _
theorem Cp{W:List Way}(hl:W.length=7){i:Nat}(hi:i<6){w:Way}(ht:w.to≠0):sn (W.set (i+1) w)=(sn W).set (i+1) w.cost:=by
 unfold sn
 rw[Cl]
 refine PZ λj hj=>?_
 rw[sY hl hi (by omega)]
 by_cases h:j=i+1
 ·subst h
  simp[ht]
 ·rw[if_neg (show¬((j:Int)=(i:Int)+1) by omega),if_neg h]
theorem P2{W:List Way}(hl:W.length=7){i:Nat}(hi:i<6)(w:Way):u9 (W.set (i+1) w)=(u9 W).set (i+1) w.aG:=by
 unfold u9
 rw[Cl]
 refine PZ λj hj=>?_
 rw[sY hl hi (by omega)]
 by_cases h:j=i+1
 ·subst h
  rw[if_pos (by simp),if_pos rfl]
 ·rw[if_neg (show¬((j:Int)=(i:Int)+1) by omega),if_neg h]
theorem aa7{W:List Way}(hl:W.length=7){i:Nat}(hi:i<6){w:Way}(ht:w.to≠0)(h0:(gt W ((i:Int)+1)).to≠0)(hc:w.cost=(gt W ((i:Int)+1)).cost):sn (W.set (i+1) w)=sn W:=by
 rw[Cp hl hi ht]
 unfold sn
 rw[Cl]
 refine PZ λj hj=>?_
 by_cases h:j=i+1
 ·subst h
  rw[if_pos rfl,if_neg (by omega),if_neg (by simpa using h0),hc]
  simp
 ·rw[if_neg h]
theorem asT(D:List Int){b:Int}(h:1<=b)(h':b<=6):(xn D).set b.toNat true=xn (D++[b]):=by
 unfold xn
 rw[Cl]
 refine PZ λj hj=>?_
 by_cases e:j=b.toNat
 ·rw[if_pos e]
  have:(j:Int)=b:=by omega
  rw[this]
  simp
 ·rw[if_neg e]
  have:¬((j:Int)=b):=by omega
  rw[Bool.eq_iff_iff,List.contains_iff_mem,List.contains_iff_mem]
  simp[this]
theorem asU{W:List Way}(h:W.length=7):W=sW λi=>gt W (i:Int):=by
 refine List.ext_getElem (by rw[Ci,h]) λi h1 h2=>?_
 simp only[sW,List.getElem_map,List.getElem_range]
 rw[d_ h1]
theorem asV{s:List ah}(hs:dX s=true){ar fr:Int}{F:af->af}(st:Int->List Way->List Int->List T){out:List Way->Option (List T)}
  (hA:∀W D q,ig fr W D->D.length<6->dW W D=0->F q (st (D.length+1) W D)=q (st 7 W D))
  (hB:∀W D q,ig fr W D->D.length<6->dW W D≠0->F q (st (D.length+1) W D)=q (st (D.length+1+1) (pw s ar fr (dW W D) W) (D++[dW W D])))
  (fin:∀W D q,ig fr W D->dW W D=0->F q (st 7 W D)=out W):
  ∀k W D R,ig fr W D->D.length+k=6->k+1<R->iter F R (st (D.length+1) W D)=out (sX s ar fr k W D):=by
 intro k
 induction k with
 |zero=>
  intro W D R h hk hR
  cases R with
  |zero=>omega
  |succ R=>
   have hb:=h.full (by omega)
   unfold iter
   rw[show((D.length:Int)+1)=7 by omega]
   exact fin W D _ h hb
 |succ k ih=>
  intro W D R h hk hR
  cases R with
  |zero=>omega
  |succ R=>
   unfold iter
   by_cases hb:dW W D=0
   ·rw[hA W D _ h (by omega) hb]
    cases R with
    |zero=>omega
    |succ R=>
     unfold iter
     rw[fin W D _ h hb]
     unfold sX
     rw[if_pos hb]
   ·rw[hB W D _ h (by omega) hb]
    have:=ih _ _ R (h.step hs ar hb) (by simp;omega) (by omega)
    rw[show(((D++[dW W D]).length:Int)+1)=D.length+1+1 by simp]at this
    rw[this]
    conv=>rhs;unfold sX
    rw[if_neg hb]
theorem asW{W:List Way}{D:List Int}{fr:Int}(h:ig fr W D)(hb:dW W D=0):yY W=((List.range 6).filter λi:Nat=>D.contains ((i:Int)+1)).map λi:Nat=>(⟨(i:Int)+1,(gt W ((i:Int)+1)).cost,(gt W ((i:Int)+1)).aG⟩:Way):=by
 have hD:=((Cm W D).resolve_right λe=>by omega).2
 have e:W=gt W 0::(List.range 6).map λi:Nat=>gt W ((i:Int)+1):=(asU h.ok.len).trans rfl
 have h0:(gt W 0).to=0:=(h.ok.to 0 (by omega) (by omega)).elim id id
 have hf:yY W=(((List.range 6).map λi:Nat=>gt W ((i:Int)+1)).filter λw=>!(w.to==0)):=by
  unfold yY
  conv=>lhs;rw[e]
  rw[List.filter_cons,if_neg (by simp[h0])]
 rw[hf,List.filter_map]
 have hp:∀i:Nat,i∈List.range 6->((λw:Way=>!(w.to==0))∘λi:Nat=>gt W ((i:Int)+1)) i=D.contains ((i:Int)+1):=by
  intro i hi
  have hi:i<6:=by simpa using hi
  rw[Bool.eq_iff_iff,List.contains_iff_mem]
  simp only[Function.comp,Bool.not_eq_true',beq_eq_false_iff_ne]
  exact⟨λh1=>hD _ (by omega) (by omega) h1,λh1=>(h.mem _ h1).2⟩
 rw[List.filter_congr hp]
 refine List.map_congr_left λi hi=>?_
 obtain⟨h1,h2⟩:=List.mem_filter.1 hi
 have h1:i<6:=by simpa using h1
 have h3:=(h.mem _ (List.contains_iff_mem.1 h2)).2
 have h4:=(h.ok.to ((i:Int)+1) (by omega) (by omega)).resolve_left h3
 have hw:∀(w:Way) (n:Int),w.to=n->w=⟨n,w.cost,w.aG⟩:=by intro w n hn;subst hn;rfl
 exact hw _ _ h4
set_option maxHeartbeats 1600000 in
theorem N9(s:List ah)(ar fr:Int)(h:s.length<=1048576)(hn:bm s):FG [.l (s.map aB),ii ar,ii fr]=some [.l ((aC s ar fr).map aZ)]:=by
 obtain⟨c0,c1,c2,c3,c4,c6,c7,e⟩:=NX s ar fr h
 rw[apA];simp(disch:=omega) only[↓pq,↓pj,ps,pz,↓reduceIte,aj,ak,ap,aq,au,av,aw,ax,ay,n9,n_,oa,nF,od,MC,e,Gv _ h hn,Gu]
 unfold aC
 cases hs:dX s with
 |false=>simp
 |true=>
 cases h6:gZ fr 1 6 with
 |false=>simp
 |true=>
 have h6':=aW.1 h6
 by_cases hq:0<=iH s ar fr
 case neg=>simp[hq]
 rw[if_pos (show(true=true∧true=true∧0<=iH s ar fr) from⟨rfl,rfl,hq⟩)]
 have m1:=Cc (enc:=aD) (n:=7) (x:=0) (vs:=[ii 0]) (by decide) rfl
 have m2:=Cc (enc:=xl) (n:=7) (x:=[]) (vs:=[.l []]) (by decide) rfl
 have m3:=Cc (enc:=jD) (n:=7) (x:=false) (vs:=[bb false]) (by decide) rfl
 simp only[not_true_eq_false,if_false,hq]
 rw[asG _ _ h hn hs,TS]
 rw[show Prim.ev .mk [ii 7,ii 7,ii 0]=some (.l ((List.replicate 7 (0:Int)).map aD)) from m1,dU,show Prim.ev .mk [ii 7,ii 7,.l []]=some (.l ((List.replicate 7 ([]:List Int)).map xl)) from m2,dU,
  show Prim.ev .mk [ii 7,ii 7,bb false]=some (.l ((List.replicate 7 false).map jD)) from m3,dU]
 have Ip:∀w:List Int,fI w->FF [.l [],.l (w.map aD)]=some [.l (w.map aD)]:=λw hw=>by
  have:=GZ [] w (by simp) (by have:=sm hw;omega)
  rw[aaS hw]at this
  exact this
 have hML:=asC s ar
 have sel:∀W D q,ig fr W D->D.length<6->nF rounds FF (ii fr) (T.l []) (T.l (List.map aD (Cg s ar))) q [ii (D.length+1),.l ((u9 W).map xl),.l ((xn D).map jD),.l ((sn W).map aD)]=
   if dW W D=0 then q [ii 7,.l ((u9 W).map xl),.l ((xn D).map jD),.l ((sn W).map aD)]
   else q [ii (D.length+1+1),.l ((u9 (pw s ar fr (dW W D) W)).map xl),.l ((xn (D++[dW W D])).map jD),.l ((sn (pw s ar fr (dW W D) W)).map aD)]:=by
  intro W D q hI hD
  have hle:(D.length:Int)+1<=6:=by omega
  have hW:=hI.ok
  have hWl:=hW.len
  have l1:=N8 D
  have l2:=N6 W
  have l3:=N7 W
  simp(disch:=omega) only[↓pq,↓pj,ps,pz,↓reduceIte,aj,ak,ap,aq,au,av,aw,ax,ay,n9,n_,oa,nF,od,hle]
  refine ud 6 (λi b=>[ii b,ii (i+1)]) (Df W D) (λb=>if b=0 then q [ii 7,.l ((u9 W).map xl),.l ((xn D).map jD),.l ((sn W).map aD)]
   else q [ii (D.length+1+1),.l ((u9 (pw s ar fr b W)).map xl),.l ((xn (D++[b])).map jD),.l ((sn (pw s ar fr b W)).map aD)]) 0 (λi b=>b=(List.range i).foldl (Df W D) 0∧0<=b∧b<=6∧(b≠0->(gt W b).to≠0)) rfl (dR (by omega)) (by simp) ?_ ?_
  ·intro i b hi ⟨zt,HI,P1,iK⟩
   refine⟨⟨by rw[List.range_succ,List.foldl_append,<-zt];rfl,?_⟩,λw=>?_⟩
   ·unfold Df
    split
    ·rename_i hx;exact⟨by omega,by omega,λ_=>hx.1⟩
    ·exact⟨HI,P1,iK⟩
   ·have dl:(i:Int)+1<=6:=by omega
    have oD:=Co W (v:=(i:Int)+1) (by omega) dl
    have fx:=N5 D (v:=(i:Int)+1) (by omega) dl
    have hco:=hW.cost ((i:Int)+1) (by omega) (by omega)
    unfold Df
    cases Dg:D.contains ((i:Int)+1)with
    |true=>simp(disch:=omega) only[↓pq,↓pj,ps,pz,↓reduceIte,aj,ak,ap,aq,au,av,aw,ax,ay,n9,n_,oa,nF,od,dl,fx,Dg];simp
    |false=>
     by_cases q1:(gt W ((i:Int)+1)).to=0
     ·simp(disch:=omega) only[↓pq,↓pj,ps,pz,↓reduceIte,aj,ak,ap,aq,au,av,aw,ax,ay,n9,n_,oa,nF,od,dl,fx,Dg,oD,q1,dS]
      simp
     ·have Q7:(gt W ((i:Int)+1)).cost>=0:=hco.1
      by_cases q2:b=0
      ·simp(disch:=omega) only[↓pq,↓pj,ps,pz,↓reduceIte,aj,ak,ap,aq,au,av,aw,ax,ay,n9,n_,oa,nF,od,dl,fx,Dg,oD,q1,q2,Q7,dS]
       simp
      ·have oI:=Co W (v:=b) (by omega) P1
       have qe:=iK q2
       by_cases q3:(gt W ((i:Int)+1)).cost<(gt W b).cost
       ·simp(disch:=omega) only[↓pq,↓pj,ps,pz,↓reduceIte,aj,ak,ap,aq,au,av,aw,ax,ay,n9,n_,oa,nF,od,dl,fx,Dg,oD,oI,qe,q1,q2,q3,Q7,dS]
        simp
       ·simp(disch:=omega) only[↓pq,↓pj,ps,pz,↓reduceIte,aj,ak,ap,aq,au,av,aw,ax,ay,n9,n_,oa,nF,od,dl,fx,Dg,oD,oI,qe,q1,q2,q3,Q7,dS]
        simp
  ·intro b w ⟨zt,HI,P1,iK⟩
   by_cases hb:b=0
   ·simp(disch:=omega) only[↓pq,↓pj,ps,pz,↓reduceIte,aj,ak,ap,aq,au,av,aw,ax,ay,n9,n_,oa,nF,od,hb]
   have hbb:b=dW W D:=zt
   have ma:1<=b∧b<=6:=by omega
   obtain⟨g1,g2,g3,g4⟩:=(Cm W D).resolve_left λe=>hb (hbb.trans e.1)
   rw[<-hbb]at g1 g2 g3 g4
   have oI:=hW.cost b (by omega) (by omega)
   have l4:=N8 (D++[b])
   have asX:fr∈D++[b]:=by
    rcases hI.first with⟨e,hf⟩|hf
    ·rw[hf b g1.1 g1.2 g2];simp
    ·simp[hf]
   simp(disch:=omega) only[↓pq,↓pj,ps,pz,↓reduceIte,aj,ak,ap,aq,au,av,aw,ax,ay,n9,n_,oa,nF,od,hb,ast,asT D ma.1 ma.2]
   refine ud 6 (λi W'=>[ii (i+1),.l ((u9 W').map xl),.l ((sn W').map aD)]) (mF s ar fr b) (λW'=>q [ii (D.length+1+1),.l ((u9 W').map xl),.l ((xn (D++[b])).map jD),.l ((sn W').map aD)]) W (λi W'=>nq W' (1000*D.length+1000)∧gt W' b=gt W b∧∀v∈D,gt W' v=gt W v) rfl (dR (by omega)) ⟨hW.mono (by omega),rfl,λ_ _=>rfl⟩ ?_ ?_
   ·intro i W' hi ⟨sL,nS,hgD⟩
    have nI:i<6:=by omega
    have cm:=GW hs ar fr ma (by omega) sL (by rw[nS];exact oI.2) nI
    have dl:(i:Int)+1<=6:=by omega
    have ke:=sL.len
    have OZ:=Io hs ar b ((i:Int)+1)
    have asQ:=sL.cost b (by omega) (by omega)
    have asR:=sL.cost ((i:Int)+1) (by omega) (by omega)
    have GX:=sL.aG b (by omega) (by omega)
    have sJ:=sL.aG ((i:Int)+1) (by omega) (by omega)
    have hhl:=sm GX
    have aDp:=sm sJ
    have l5:=N6 W'
    have l6:=N7 W'
    have hM:=asF hs ar (u:=b) (v:=(i:Int)+1) ma (by omega)
    have oD:=Co W' (v:=(i:Int)+1) (by omega) dl
    have jC:=Co W' (v:=b) ma.1 ma.2
    have qe:(gt W' b).to≠0:=by rw[nS];exact g2
    have fx:=N5 (D++[b]) (v:=(i:Int)+1) (by omega) dl
    have tV:=N4 W' (v:=(i:Int)+1) (by omega) dl
    have Dh:=N4 W' (v:=b) (by omega) ma.2
    have ux:((i:Int)+1).toNat=i+1:=by omega
    have oJ:=sL.to ((i:Int)+1) (by omega) (by omega)
    have stay:((i:Int)+1∈D++[b])->dE s ar b ((i:Int)+1)≠0->mF s ar fr b W' i=W':=by
     intro hm dk
     unfold mF
     by_cases e:dE s ar b ((i:Int)+1)=0∨(i:Int)+1=fr
     ·rw[if_pos e]
     ·rw[if_neg e]
      rcases List.mem_append.1 hm with hm|hm
      ·have h1:=hgD _ hm
       have h2:=(hI.mem _ hm).2
       have h3:=hI.mono _ hm b g1.1 g1.2 g3 g2
       rw[h1,nS]
       rw[if_neg (by rintro(h4|h4);exact h2 h4;omega),if_neg (by omega)]
      ·rw[List.mem_singleton]at hm
       rw[hm,GV hs]at dk
       exact absurd rfl dk
    refine⟨⟨cm.1,cm.2.trans nS,λv hv=>?_⟩,λw=>?_⟩
    ·rw[<-hgD v hv]
     by_cases e:v=(i:Int)+1
     ·by_cases e2:dE s ar b ((i:Int)+1)=0
      ·unfold mF;rw[if_pos (.inl e2)]
      ·rw[stay (List.mem_append.2 (.inl (e▸hv))) e2]
     ·have hv0:=(hI.mem v hv).1
      unfold mF
      split
      ·rfl
      ·split
       ·rw[sY ke nI (by omega),if_neg e]
       ·split
        ·rw[sY ke nI (by omega),if_neg e]
        ·rfl
    by_cases q1:dE s ar b ((i:Int)+1)=0
    ·simp(disch:=omega) only[↓pq,↓pj,ps,pz,↓reduceIte,aj,ak,ap,aq,au,av,aw,ax,ay,n9,n_,oa,nF,od,dl,hM,q1]
     unfold mF
     rw[if_pos (.inl q1)]
    cases q2:(D++[b]).contains ((i:Int)+1)with
    |true=>
     rw[stay (List.contains_iff_mem.1 q2) q1]
     simp(disch:=omega) only[↓pq,↓pj,ps,pz,↓reduceIte,aj,ak,ap,aq,au,av,aw,ax,ay,n9,n_,oa,nF,od,dl,hM,q1,fx,q2]
    |false=>
     have q2':¬((i:Int)+1=fr):=λe=>by
      have:=List.contains_iff_mem.2 asX
      rw[<-e,q2]at this;cases this
     by_cases q3:b=fr
     ·skip
      have lc:mF s ar fr b W' i=(if(gt W' ((i:Int)+1)).to=0∨(gt W' b).cost+dE s ar b ((i:Int)+1)<(gt W' ((i:Int)+1)).cost then W'.set (i+1) ⟨(i:Int)+1,(gt W' b).cost+dE s ar b ((i:Int)+1),[(i:Int)+1]⟩
       else if(gt W' b).cost+dE s ar b ((i:Int)+1)=(gt W' ((i:Int)+1)).cost then W'.set (i+1) (lY (gt W' ((i:Int)+1)) ⟨(i:Int)+1,(gt W' b).cost+dE s ar b ((i:Int)+1),[(i:Int)+1]⟩)else W'):=by
       unfold mF
       rw[if_neg (by rintro(h1|h1);exact q1 h1;exact q2' h1),if_pos q3]
      rw[lc]
      by_cases q4:(gt W' ((i:Int)+1)).to=0
      ·rw[if_pos (.inl q4),P2 ke nI,Cp ke nI (by show(i:Int)+1≠0;omega)]
       simp(disch:=omega) only[↓pq,↓pj,ps,pz,↓reduceIte,aj,ak,ap,aq,au,av,aw,ax,ay,n9,n_,oa,nF,od,dl,hM,q1,fx,q2,oD,jC,tV,Dh,qe,eq_true q3,Ip _ (Ij (n:=(i:Int)+1) (by omega) (by omega)),Cb,Il,ux,GR,dS,q4]
      have EX:¬((gt W' ((i:Int)+1)).cost<0):=by omega
      by_cases q5:(gt W' b).cost+dE s ar b ((i:Int)+1)<(gt W' ((i:Int)+1)).cost
      ·rw[if_pos (.inr q5),P2 ke nI,Cp ke nI (by show(i:Int)+1≠0;omega)]
       simp(disch:=omega) only[↓pq,↓pj,ps,pz,↓reduceIte,aj,ak,ap,aq,au,av,aw,ax,ay,n9,n_,oa,nF,od,dl,hM,q1,fx,q2,oD,jC,tV,Dh,qe,eq_true q3,Ip _ (Ij (n:=(i:Int)+1) (by omega) (by omega)),Cb,Il,ux,GR,dS,q4,EX,q5]
      rw[if_neg (by rintro(h1|h1);exact q4 h1;exact q5 h1)]
      by_cases q6:(gt W' b).cost+dE s ar b ((i:Int)+1)=(gt W' ((i:Int)+1)).cost
      ·have N_:lY (gt W' ((i:Int)+1)) ⟨(i:Int)+1,(gt W' b).cost+dE s ar b ((i:Int)+1),[(i:Int)+1]⟩=⟨(gt W' ((i:Int)+1)).to,(gt W' ((i:Int)+1)).cost,yV (gt W' ((i:Int)+1)).aG ([(i:Int)+1])⟩:=by
        unfold lY
        rw[if_neg (by show¬((gt W' b).cost+_>_);omega),if_neg (by show¬(_>(gt W' b).cost+_);omega)]
       rw[if_pos q6,N_,P2 ke nI,aa7 (w:=⟨(gt W' ((i:Int)+1)).to,(gt W' ((i:Int)+1)).cost,yV (gt W' ((i:Int)+1)).aG [(i:Int)+1]⟩) ke nI q4 q4 rfl]
       have hu:=GZ (gt W' ((i:Int)+1)).aG ([(i:Int)+1]) (by omega) (by simp)
       have q5':¬((gt W' ((i:Int)+1)).cost<(gt W' ((i:Int)+1)).cost):=by omega
       simp(disch:=omega) only[↓pq,↓pj,ps,pz,↓reduceIte,aj,ak,ap,aq,au,av,aw,ax,ay,n9,n_,oa,nF,od,dl,hM,q1,fx,q2,oD,jC,tV,Dh,qe,eq_true q3,Ip _ (Ij (n:=(i:Int)+1) (by omega) (by omega)),Cb,Il,ux,GR,dS,q4,EX,q5,q5',q6,hu]
      ·rw[if_neg q6]
       simp(disch:=omega) only[↓pq,↓pj,ps,pz,↓reduceIte,aj,ak,ap,aq,au,av,aw,ax,ay,n9,n_,oa,nF,od,dl,hM,q1,fx,q2,oD,jC,tV,Dh,qe,eq_true q3,Ip _ (Ij (n:=(i:Int)+1) (by omega) (by omega)),Cb,Il,ux,GR,dS,q4,EX,q5,q6]
     ·skip
      have lc:mF s ar fr b W' i=(if(gt W' ((i:Int)+1)).to=0∨(gt W' b).cost+dE s ar b ((i:Int)+1)<(gt W' ((i:Int)+1)).cost then W'.set (i+1) ⟨(i:Int)+1,(gt W' b).cost+dE s ar b ((i:Int)+1),(gt W' b).aG⟩
       else if(gt W' b).cost+dE s ar b ((i:Int)+1)=(gt W' ((i:Int)+1)).cost then W'.set (i+1) (lY (gt W' ((i:Int)+1)) ⟨(i:Int)+1,(gt W' b).cost+dE s ar b ((i:Int)+1),(gt W' b).aG⟩)else W'):=by
       unfold mF
       rw[if_neg (by rintro(h1|h1);exact q1 h1;exact q2' h1),if_neg q3]
      rw[lc]
      by_cases q4:(gt W' ((i:Int)+1)).to=0
      ·rw[if_pos (.inl q4),P2 ke nI,Cp ke nI (by show(i:Int)+1≠0;omega)]
       simp(disch:=omega) only[↓pq,↓pj,ps,pz,↓reduceIte,aj,ak,ap,aq,au,av,aw,ax,ay,n9,n_,oa,nF,od,dl,hM,q1,fx,q2,oD,jC,tV,Dh,qe,eq_false q3,Ip _ GX,Cb,Il,ux,GR,dS,q4]
      have EX:¬((gt W' ((i:Int)+1)).cost<0):=by omega
      by_cases q5:(gt W' b).cost+dE s ar b ((i:Int)+1)<(gt W' ((i:Int)+1)).cost
      ·rw[if_pos (.inr q5),P2 ke nI,Cp ke nI (by show(i:Int)+1≠0;omega)]
       simp(disch:=omega) only[↓pq,↓pj,ps,pz,↓reduceIte,aj,ak,ap,aq,au,av,aw,ax,ay,n9,n_,oa,nF,od,dl,hM,q1,fx,q2,oD,jC,tV,Dh,qe,eq_false q3,Ip _ GX,Cb,Il,ux,GR,dS,q4,EX,q5]
      rw[if_neg (by rintro(h1|h1);exact q4 h1;exact q5 h1)]
      by_cases q6:(gt W' b).cost+dE s ar b ((i:Int)+1)=(gt W' ((i:Int)+1)).cost
      ·have N_:lY (gt W' ((i:Int)+1)) ⟨(i:Int)+1,(gt W' b).cost+dE s ar b ((i:Int)+1),(gt W' b).aG⟩=⟨(gt W' ((i:Int)+1)).to,(gt W' ((i:Int)+1)).cost,yV (gt W' ((i:Int)+1)).aG ((gt W' b).aG)⟩:=by
        unfold lY
        rw[if_neg (by show¬((gt W' b).cost+_>_);omega),if_neg (by show¬(_>(gt W' b).cost+_);omega)]
       rw[if_pos q6,N_,P2 ke nI,aa7 (w:=⟨(gt W' ((i:Int)+1)).to,(gt W' ((i:Int)+1)).cost,yV (gt W' ((i:Int)+1)).aG (gt W' b).aG⟩) ke nI q4 q4 rfl]
       have hu:=GZ (gt W' ((i:Int)+1)).aG ((gt W' b).aG) (by omega) (by omega)
       have q5':¬((gt W' ((i:Int)+1)).cost<(gt W' ((i:Int)+1)).cost):=by omega
       simp(disch:=omega) only[↓pq,↓pj,ps,pz,↓reduceIte,aj,ak,ap,aq,au,av,aw,ax,ay,n9,n_,oa,nF,od,dl,hM,q1,fx,q2,oD,jC,tV,Dh,qe,eq_false q3,Ip _ GX,Cb,Il,ux,GR,dS,q4,EX,q5,q5',q6,hu]
      ·rw[if_neg q6]
       simp(disch:=omega) only[↓pq,↓pj,ps,pz,↓reduceIte,aj,ak,ap,aq,au,av,aw,ax,ay,n9,n_,oa,nF,od,dl,hM,q1,fx,q2,oD,jC,tV,Dh,qe,eq_false q3,Ip _ GX,Cb,Il,ux,GR,dS,q4,EX,q5,q6]
   ·intro W' w _
    simp(disch:=omega) only[↓pq,↓pj,ps,pz,↓reduceIte,aj,ak,ap,aq,au,av,aw,ax,ay,n9,n_,oa,nF,od,]
 refine ud 6 (λi c=>[ii (i+1),.l (c.map aD)]) (λc i=>c.set (i+1) (-1)) (λc=>if c=[0,-1,-1,-1,-1,-1,-1]then some [T.l ((yY (sX s ar fr 6 (W0 fr) [])).map aZ)]else none) (List.replicate 7 0) (λi c=>c=(List.range i).foldl (λc i=>c.set (i+1) (-1)) (List.replicate 7 0)) rfl (dR (by omega)) rfl ?_ ?_ |>.trans (by rfl)
 ·intro i c hi hc
  have hl:c.length=7:=by rw[hc,NZ (λM x=>by simp)];simp
  have dl:(i:Int)+1<=6:=by omega
  have ux:((i:Int)+1).toNat=i+1:=by omega
  refine⟨by rw[List.range_succ,List.foldl_append,<-hc];rfl,λq=>?_⟩
  simp(disch:=omega) only[↓pq,↓pj,ps,pz,↓reduceIte,aj,ak,ap,aq,au,av,aw,ax,ay,n9,n_,oa,nF,od,dl,Cb,ux]
 ·intro c q hc
  have hc:c=[0,-1,-1,-1,-1,-1,-1]:=hc
  rw[hc,if_pos rfl]
  have be:fr<(([0,-1,-1,-1,-1,-1,-1]:List Int).length:Int):=by simp;omega
  have kt:Prim.ev (.put true 1 0 1) [.l (([0,-1,-1,-1,-1,-1,-1]:List Int).map aD),ii fr,ii 0]=some (.l ((sn (W0 fr)).map aD)):=by
   rw[Cb (by omega) be]
   congr 3
   unfold sn
   rw[show([0,-1,-1,-1,-1,-1,-1]:List Int)=sW (λi=>if i=0 then 0 else -1) from rfl,Cl]
   refine PZ λi hi=>?_
   rw[uw h6' (by omega) (by omega)]
   by_cases e:i=fr.toNat
   ·have e1:fr=(i:Int):=by omega
    have e2:¬(i=0):=by omega
    rw[if_pos e,if_neg e2,if_pos e1]
    show(0:Int)=if fr=0 then -1 else 0
    rw[if_neg (by omega)]
   ·have e1:¬(fr=(i:Int)):=by omega
    rw[if_neg e,if_neg e1]
    by_cases e0:i=0
    ·rw[if_pos e0,if_pos e0]
    ·rw[if_neg e0,if_neg e0];rfl
  have hh:(List.replicate 7 ([]:List Int))=u9 (W0 fr):=by
   show sW (λ_=>[])=_
   unfold u9
   refine PZ λi hi=>?_
   rw[uw h6' (by omega) (by omega)]
   split<;>rfl
  have oG:List.replicate 7 false=xn []:=rfl
  simp(disch:=omega) only[↓pq,↓pj,ps,pz,↓reduceIte,aj,ak,ap,aq,au,av,aw,ax,ay,n9,n_,oa,nF,od,kt,hh,oG]
  refine asV (s:=s) hs (ar:=ar) (fr:=fr) (λr W D=>[ii r,.l ((u9 W).map xl),.l ((xn D).map jD),.l ((sn W).map aD)]) (out:=λW=>some [T.l ((yY W).map aZ)]) ?_ ?_ ?_ 6 (W0 fr) [] rounds (ig.start h6') rfl (by unfold rounds;omega)
  ·intro W D q hI hD hb
   rw[sel W D q hI hD,if_pos hb]
  ·intro W D q hI hD hb
   rw[sel W D q hI hD,if_neg hb]
  ·intro W D q hI hb
   have l1:=N8 D
   have l2:=N6 W
   have l3:=N7 W
   simp(disch:=omega) only[↓pq,↓pj,ps,pz,↓reduceIte,aj,ak,ap,aq,au,av,aw,ax,ay,n9,n_,oa,nF,od,]
   refine(ud 6 (λi c=>[.l (c.map aZ),ii (i+1)]) (λc i=>if D.contains ((i:Int)+1)=true then c++[⟨(i:Int)+1,(gt W ((i:Int)+1)).cost,(gt W ((i:Int)+1)).aG⟩]else c) (λc=>some [T.l (c.map aZ)]) [] (λi c=>c.length<=i) rfl (dR (by omega)) (by simp) ?_ ?_).trans (by rw[KV (λi:Nat=>D.contains ((i:Int)+1)) (λi:Nat=>(⟨(i:Int)+1,(gt W ((i:Int)+1)).cost,(gt W ((i:Int)+1)).aG⟩:Way)),List.nil_append,<-asW hI hb])
   ·intro i c hi hc
    refine⟨by split<;>(try simp)<;>omega,λw=>?_⟩
    have dl:(i:Int)+1<=6:=by omega
    have fx:=N5 D (v:=(i:Int)+1) (by omega) dl
    have oD:=Co W (v:=(i:Int)+1) (by omega) dl
    have tV:=N4 W (v:=(i:Int)+1) (by omega) dl
    have hhl:=sm (hI.ok.aG ((i:Int)+1) (by omega) (by omega))
    cases Dg:D.contains ((i:Int)+1)with
    |false=>simp(disch:=omega) only[↓pq,↓pj,ps,pz,↓reduceIte,aj,ak,ap,aq,au,av,aw,ax,ay,n9,n_,oa,nF,od,dl,fx,Dg,dS]
    |true=>
     have ht:=(hI.mem _ (List.contains_iff_mem.1 Dg)).2
     simp(disch:=omega) only[↓pq,↓pj,ps,pz,↓reduceIte,aj,ak,ap,aq,au,av,aw,ax,ay,n9,n_,oa,nF,od,dl,fx,Dg,oD,tV,ht,GR]
   ·intro c w hc
    simp(disch:=omega) only[↓pq,↓pj,ps,pz,↓reduceIte,aj,ak,ap,aq,au,av,aw,ax,ay,n9,n_,oa,nF,od,]
theorem Oa{α:Type}(key:α->Int):∀{a b:List α},a.Pairwise (λx y=>key x<key y)->b.Pairwise (λx y=>key x<key y)->(∀x,x∈a↔x∈b)->a=b
 | [],[],_,_,_=>rfl
 | [],y::b,_,_,h=>absurd ((h y).2 (.head _)) (by simp)
 |x::a,[],_,_,h=>absurd ((h x).1 (.head _)) (by simp)
 |x::a,y::b,ha,hb,h=>by
  have v8:=List.pairwise_cons.1 ha
  have jz:=List.pairwise_cons.1 hb
  have Jq:x=y:=by
   rcases List.mem_cons.1 ((h x).1 (.head _))with e|e
   ·exact e
   ·rcases List.mem_cons.1 ((h y).2 (.head _))with e'|e'
    ·exact e'.symm
    ·have:=jz.1 x e;have:=v8.1 y e';omega
  subst Jq
  have:a=b:=Oa key v8.2 jz.2 λz=>by
   constructor
   ·intro hz
    rcases List.mem_cons.1 ((h z).1 (.tail _ hz))with e|e
    ·subst e;have:=v8.1 z hz;omega
    ·exact e
   ·intro hz
    rcases List.mem_cons.1 ((h z).2 (.tail _ hz))with e|e
    ·subst e;have:=jz.1 z hz;omega
    ·exact e
  rw[this]
def oh(o:Option Way)(w:Way):Option Way:=match o with|none=>some w|some b=>some (lY b w)
def jN(l:List Way):Option Way:=l.foldl oh none
theorem G0(l:List Way)(w:Way):jN (l++[w])=oh (jN l) w:=by simp[jN]
def Ob(l:List Way)(b:Way):Prop:=fI b.aG∧(∃x∈l,x.cost=b.cost)∧(∀x∈l,b.cost<=x.cost)∧∀h,h∈b.aG↔∃x∈l,x.cost=b.cost∧h∈x.aG
theorem asZ{l:List Way}{b w:Way}(hl:∀x∈l,fI x.aG)(hw:fI w.aG)(h:Ob l b):Ob (l++[w]) (lY b w):=by
 obtain⟨h1,⟨x0,CS,Ru⟩,h3,h4⟩:=h
 unfold lY
 by_cases q1:w.cost>b.cost
 ·rw[if_pos q1]
  refine⟨h1,⟨x0,by simp[CS],Ru⟩,λx hx=>?_,λh=>?_⟩
  ·rcases List.mem_append.1 hx with hx|hx
   ·exact h3 x hx
   ·rw[List.mem_singleton]at hx;subst hx;omega
  ·rw[h4]
   constructor
   ·rintro⟨x,hx,e1,e2⟩;exact⟨x,by simp[hx],e1,e2⟩
   ·rintro⟨x,hx,e1,e2⟩
    rcases List.mem_append.1 hx with hx|hx
    ·exact⟨x,hx,e1,e2⟩
    ·rw[List.mem_singleton]at hx;subst hx;omega
 rw[if_neg q1]
 by_cases q2:b.cost>w.cost
 ·rw[if_pos q2]
  refine⟨hw,⟨w,by simp,rfl⟩,λx hx=>?_,λh=>?_⟩
  ·rcases List.mem_append.1 hx with hx|hx
   ·have:=h3 x hx;omega
   ·rw[List.mem_singleton]at hx;subst hx;omega
  ·constructor
   ·intro hh;exact⟨w,by simp,rfl,hh⟩
   ·rintro⟨x,hx,e1,e2⟩
    rcases List.mem_append.1 hx with hx|hx
    ·have:=h3 x hx;omega
    ·rw[List.mem_singleton]at hx;subst hx;exact e2
 rw[if_neg q2]
 have he:w.cost=b.cost:=by omega
 refine⟨GH _ _,⟨x0,by simp[CS],Ru⟩,λx hx=>?_,λh=>?_⟩
 ·rcases List.mem_append.1 hx with hx|hx
  ·exact h3 x hx
  ·rw[List.mem_singleton]at hx;subst hx;show b.cost<=_;omega
 ·show h∈yV b.aG w.aG↔_
  rw[GI]
  constructor
  ·rintro⟨_,hh|hh⟩
   ·obtain⟨x,hx,e1,e2⟩:=(h4 h).1 hh
    exact⟨x,by simp[hx],e1,e2⟩
   ·exact⟨w,by simp,he,hh⟩
  ·rintro⟨x,hx,e1,e2⟩
   rcases List.mem_append.1 hx with hx|hx
   ·exact⟨(hl x hx).2 h e2,.inl ((h4 h).2 ⟨x,hx,e1,e2⟩)⟩
   ·rw[List.mem_singleton]at hx;subst hx
    exact⟨hw.2 h e2,.inr e2⟩
theorem Iq{v:Int}:∀(n:Nat) (l:List Way),l.length=n->(∀x∈l,x.to=v∧fI x.aG)->(l=[]∧jN l=none)∨∃b,jN l=some b∧b.to=v∧Ob l b:=by
 intro n
 induction n with
 |zero=>intro l hl _;exact .inl ⟨List.eq_nil_of_length_eq_zero hl,by rw[List.eq_nil_of_length_eq_zero hl];rfl⟩
 |succ n ih=>
  intro l hl hx
  right
  obtain⟨l',w,rfl⟩:∃l' w,l=l'++[w]:=⟨l.dropLast,l.getLast (by intro e;subst e;simp at hl),(List.dropLast_concat_getLast _).symm⟩
  have hw:=hx w (by simp)
  rw[G0]
  rcases ih l' (by simpa using hl) (λx h=>hx x (by simp[h]))with⟨rfl,e⟩|⟨b,e,hb,hB⟩
  ·rw[e]
   exact⟨w,rfl,hw.1,hw.2,⟨w,by simp,rfl⟩,by simp,λh=>by simp⟩
  ·rw[e]
   exact⟨lY b w,rfl,v_ hb hw.1,asZ (λx h=>(hx x (by simp[h])).2) hw.2 hB⟩
theorem aa8{v:Int}{l l':List Way}(h:∀x∈l,x.to=v∧fI x.aG)(h':∀x,x∈l↔x∈l'):jN l=jN l':=by
 have ke:∀x∈l',x.to=v∧fI x.aG:=λx hx=>h x ((h' x).2 hx)
 rcases Iq _ l rfl h with⟨e,e1⟩|⟨b,e1,hb,B⟩
 ·rcases Iq _ l' rfl ke with⟨e',e2⟩|⟨b',_,_,B'⟩
  ·rw[e1,e2]
  ·obtain⟨x,hx,_⟩:=B'.2.1
   have:=(h' x).2 hx
   rw[e]at this;cases this
 ·rcases Iq _ l' rfl ke with⟨e',e2⟩|⟨b',e2,jz,B'⟩
  ·obtain⟨x,hx,_⟩:=B.2.1
   have:=(h' x).1 hx
   rw[e']at this;cases this
  ·have hc:b.cost=b'.cost:=by
    obtain⟨x,hx,ex⟩:=B.2.1
    obtain⟨y,hy,ey⟩:=B'.2.1
    have h1:=B'.2.2.1 x ((h' x).1 hx)
    have h2:=B.2.2.1 y ((h' y).2 hy)
    omega
   have hh:b.aG=b'.aG:=GF B.1.1 B'.1.1 λh=>by
    rw[B.2.2.2,B'.2.2.2,hc]
    exact⟨λ⟨x,hx,q⟩=>⟨x,(h' x).1 hx,q⟩,λ⟨x,hx,q⟩=>⟨x,(h' x).2 hx,q⟩⟩
   rw[e1,e2]
   congr 1
   cases b;cases b'
   simp only at hc hh hb jz
   subst hc hh hb jz
   rfl
def cw(C:List Way):List Way:=v9.filterMap λv=>jN (C.filter λw=>w.to==v)
theorem G4{C:List Way}(hC:∀x∈C,fI x.aG){x:Way}:x∈cw C↔(1<=x.to∧x.to<=6)∧jN (C.filter λw=>w.to==x.to)=some x:=by
 unfold cw
 rw[List.mem_filterMap]
 constructor
 ·rintro⟨v,hv,e⟩
  have hv:=ju.1 hv
  rcases Iq (v:=v) _ (C.filter λw=>w.to==v) rfl (λy hy=>by have:=List.mem_filter.1 hy;exact⟨by simpa using this.2,hC y this.1⟩)with⟨_,e1⟩|⟨b,e1,hb,_⟩
  ·rw[e1]at e;cases e
  ·rw[e1]at e;cases e
   subst hb
   exact⟨hv,e1⟩
 ·rintro⟨h1,h2⟩
  exact⟨x.to,ju.2 h1,h2⟩
theorem Cq(C:List Way)(hC:∀x∈C,fI x.aG):(cw C).Pairwise λa b=>a.to<b.to:=by
 unfold cw
 rw[List.pairwise_filterMap]
 refine sk.imp λ{a b} kE x hx y hy=>?_
 have key:∀(v:Int) (z:Way),jN (C.filter λw=>w.to==v)=some z->z.to=v:=by
  intro v z hz
  rcases Iq (v:=v) _ (C.filter λw=>w.to==v) rfl (λy hy=>by have:=List.mem_filter.1 hy;exact⟨by simpa using this.2,hC y this.1⟩)with⟨_,e1⟩|⟨b,e1,hb,_⟩
  ·rw[e1]at hz;cases hz
  ·rw[e1]at hz;cases hz;exact hb
 rw[key a x hx,key b y hy]
 exact kE
theorem Cr(C:List Way):(cw C).length<=6:=by
 unfold cw
 exact List.length_filterMap_le _ _
theorem P3{C:List Way}(hC:∀x∈C,fI x.aG){x:Way}(hx:x∈cw C):fI x.aG∧∃y∈C,y.to=x.to∧y.cost=x.cost:=by
 have hm:=(G4 hC).1 hx
 rcases Iq (v:=x.to) _ (C.filter λw=>w.to==x.to) rfl (λy hy=>by have:=List.mem_filter.1 hy;exact⟨by simpa using this.2,hC y this.1⟩)with⟨_,e1⟩|⟨b,e1,hb,B⟩
 ·rw[e1]at hm;cases hm.2
 ·rw[e1]at hm;cases hm.2
  obtain⟨y,hy,e⟩:=B.2.1
  have:=List.mem_filter.1 hy
  exact⟨B.1,y,this.1,by simpa using this.2,e⟩
def b9(l:List Way)(n:Int):Nat:=(l.filter (λx=>decide (x.to<n))).length
theorem G5(l:List Way)(n:Int):b9 l n<=l.length:=List.length_filter_le _ _
theorem G6{l:List Way}(h:l.Pairwise λa b=>a.to<b.to)(n:Int):∀i,(hi:i<l.length)->(l[i].to<n↔i<b9 l n):=by
 induction l with
 |nil=>simp
 |cons x c ih=>
  have hs:=List.pairwise_cons.1 h
  have i3:=ih hs.2
  by_cases hx:x.to<n
  ·have e:b9 (x::c) n=b9 c n+1:=by simp[b9,List.filter_cons,hx]
   rw[e]
   intro i hi
   cases i with
   |zero=>simp[hx]
   |succ i=>rw[List.getElem_cons_succ,i3 i (by simpa using hi)];omega
  ·have e1:(x::c).filter (λx=>decide (x.to<n))=[]:=by
    rw[List.filter_eq_nil_iff]
    intro y hy
    rcases List.mem_cons.1 hy with rfl|hy
    ·simp;omega
    ·have:=hs.1 y hy;simp;omega
   have e:b9 (x::c) n=0:=by unfold b9;rw[e1];rfl
   rw[e]
   intro i hi
   refine⟨λh3=>?_,λh3=>absurd h3 (by omega)⟩
   cases i with
   |zero=>rw[List.getElem_cons_zero]at h3;omega
   |succ i=>
    rw[List.getElem_cons_succ]at h3
    have:=hs.1 _ (List.getElem_mem (by simpa using hi:i<c.length));omega
def sq(l:List Way)(w:Way):List Way:=
 if b9 l w.to<l.length∧(gt l (b9 l w.to:Nat)).to=w.to then l.set (b9 l w.to) (lY (gt l (b9 l w.to:Nat)) w)
 else l.take (b9 l w.to)++([w]++l.drop (b9 l w.to))
theorem aa9{C:List Way}(hC:∀x∈C,fI x.aG){w:Way}(hw:1<=w.to∧w.to<=6)(hh:fI w.aG):sq (cw C) w=cw (C++[w]):=by
 have hC':∀x∈C++[w],fI x.aG:=λx hx=>by
  rcases List.mem_append.1 hx with hx|hx
  ·exact hC x hx
  ·rw[List.mem_singleton]at hx;subst hx;exact hh
 have qO:=Cq C hC
 have lc:=G6 qO w.to
 have hle:=G5 (cw C) w.to
 have P4:=List.pairwise_iff_getElem.1 qO
 have hf:∀v:Int,(C++[w]).filter (λx=>x.to==v)=C.filter (λx=>x.to==v)++if w.to=v then [w]else []:=by
  intro v
  rw[List.filter_append,List.filter_cons]
  by_cases e:w.to=v<;>simp[e]
 refine Oa Way.to ?_ (Cq _ hC') λx=>?_
 ·unfold sq
  split
  ·rename_i hc
   rw[List.pairwise_iff_getElem]
   intro i j hi hj qM
   simp only[List.length_set]at hi hj
   have oJ:(lY (gt (cw C) (b9 (cw C) w.to:Nat)) w).to=(cw C)[b9 (cw C) w.to].to:=by
    rw[v_ (n:=w.to) hc.2 rfl,<-d_ hc.1,hc.2]
   simp only[List.getElem_set]
   have tl:∀k (hk:k<(cw C).length),(if b9 (cw C) w.to=k then lY (gt (cw C) (b9 (cw C) w.to:Nat)) w else(cw C)[k]).to=(cw C)[k].to:=by
    intro k hk
    split
    ·rename_i e;subst e;exact oJ
    ·rfl
   rw[tl i hi,tl j hj]
   exact P4 i j hi hj qM
  ·rename_i hc
   rw[List.pairwise_append]
   refine⟨qO.sublist (List.take_sublist _ _),?_,?_⟩
   ·rw[List.singleton_append,List.pairwise_cons]
    refine⟨λy hy=>?_,qO.sublist (List.drop_sublist _ _)⟩
    obtain⟨i,hi,rfl⟩:=List.mem_iff_getElem.1 hy
    rw[List.getElem_drop]
    simp only[List.length_drop]at hi
    have h1:=mt (lc (b9 (cw C) w.to) (by omega)).1 (by omega)
    have h2:¬((cw C)[b9 (cw C) w.to].to=w.to):=λe=>hc ⟨by omega,by rw[d_ (by omega)];exact e⟩
    rcases Nat.eq_zero_or_pos i with rfl|h3
    ·show w.to<(cw C)[b9 (cw C) w.to].to;omega
    ·have:=P4 (b9 (cw C) w.to) (b9 (cw C) w.to+i) (by omega) (by omega) (by omega);omega
   ·intro a ha b hb
    obtain⟨i,hi,rfl⟩:=List.mem_iff_getElem.1 ha
    rw[List.getElem_take]
    simp only[List.length_take]at hi
    have h1:=(lc i (by omega)).2 (by omega)
    rcases List.mem_append.1 hb with hb|hb
    ·rw[List.mem_singleton]at hb;subst hb;exact h1
    ·obtain⟨j,hj,rfl⟩:=List.mem_iff_getElem.1 hb
     rw[List.getElem_drop]
     simp only[List.length_drop]at hj
     exact P4 i _ (by omega) (by omega) (by omega)
 ·rw[G4 hC',hf]
  unfold sq
  by_cases hc:b9 (cw C) w.to<(cw C).length∧(gt (cw C) (b9 (cw C) w.to:Nat)).to=w.to
  ·rw[if_pos hc]
   have hold:gt (cw C) (b9 (cw C) w.to:Nat)∈cw C:=kO (by omega) (by omega)
   have ho:=(G4 hC).1 hold
   rw[hc.2]at ho
   have gJ:jN (C.filter (λx=>x.to==w.to)++[w])=some (lY (gt (cw C) (b9 (cw C) w.to:Nat)) w):=by rw[G0,ho.2];rfl
   have mP:(lY (gt (cw C) (b9 (cw C) w.to:Nat)) w).to=w.to:=v_ hc.2 rfl
   constructor
   ·intro hx
    obtain⟨i,hi,rfl⟩:=List.mem_iff_getElem.1 hx
    rw[List.length_set]at hi
    rw[List.getElem_set]
    by_cases e:b9 (cw C) w.to=i
    ·rw[if_pos e,mP,if_pos rfl]
     exact⟨hw,gJ⟩
    ·rw[if_neg e]
     have dk:¬(w.to=(cw C)[i].to):=by
      rw[<-hc.2,d_ hc.1]
      rcases Nat.lt_or_gt_of_ne e with h|h
      ·have:=P4 _ _ hc.1 hi h;omega
      ·have:=P4 _ _ hi hc.1 h;omega
     rw[if_neg dk,List.append_nil]
     exact(G4 hC).1 (List.getElem_mem hi)
   ·rintro⟨h1,h2⟩
    by_cases e:w.to=x.to
    ·rw[if_pos e,<-e,gJ]at h2
     cases h2
     exact List.mem_set hc.1 _
    ·rw[if_neg e,List.append_nil]at h2
     have hx:=(G4 hC).2 ⟨h1,h2⟩
     obtain⟨i,hi,rfl⟩:=List.mem_iff_getElem.1 hx
     rw[List.mem_iff_getElem]
     refine⟨i,by simpa using hi,?_⟩
     rw[List.getElem_set,if_neg]
     rintro rfl
     rw[d_ hi]at hc
     exact e hc.2.symm
  ·rw[if_neg hc]
   have OX:∀y∈cw C,y.to≠w.to:=by
    intro y hy e
    obtain⟨i,hi,rfl⟩:=List.mem_iff_getElem.1 hy
    have h1:=mt (lc i hi).2 (by omega)
    have h2:b9 (cw C) w.to<(cw C).length:=by omega
    have h3:=mt (lc _ h2).1 (by omega)
    have h4:¬((cw C)[b9 (cw C) w.to].to=w.to):=λe'=>hc ⟨h2,by rw[d_ h2];exact e'⟩
    rcases Nat.eq_or_lt_of_le (show b9 (cw C) w.to<=i by
     rcases Nat.lt_or_ge i (b9 (cw C) w.to)with h5|h5
     ·have:=(lc i hi).2 h5;omega
     ·exact h5)with h5|h5
    ·simp only[h5]at h4;exact h4 e
    ·have:=P4 _ _ h2 hi h5;omega
   have cS:jN (C.filter λx=>x.to==w.to)=none:=by
    rcases Iq (v:=w.to) _ (C.filter λx=>x.to==w.to) rfl (λy hy=>by have:=List.mem_filter.1 hy;exact⟨by simpa using this.2,hC y this.1⟩)with⟨_,e1⟩|⟨b,e1,hb,_⟩
    ·exact e1
    ·exact absurd hb (OX b ((G4 hC).2 ⟨by rw[hb];exact hw,by rw[hb];exact e1⟩))
   have iB:x∈(cw C).take (b9 (cw C) w.to)++([w]++(cw C).drop (b9 (cw C) w.to))↔x=w∨x∈cw C:=by
    conv=>rhs;rw[<-List.take_append_drop (b9 (cw C) w.to) (cw C)]
    simp only[List.mem_append,List.mem_singleton]
    constructor
    ·rintro(h|h|h)
     ·exact .inr (.inl h)
     ·exact .inl h
     ·exact .inr (.inr h)
    ·rintro(h|h|h)
     ·exact .inr (.inl h)
     ·exact .inl h
     ·exact .inr (.inr h)
   rw[iB]
   constructor
   ·rintro(rfl|hx)
    ·rw[if_pos rfl,G0,cS]
     exact⟨hw,rfl⟩
    ·rw[if_neg (λe=>OX x hx e.symm),List.append_nil]
     exact(G4 hC).1 hx
   ·rintro⟨h1,h2⟩
    by_cases e:w.to=x.to
    ·rw[if_pos e,<-e,G0,cS]at h2
     cases h2
     exact .inl rfl
    ·rw[if_neg e,List.append_nil]at h2
     exact .inr ((G4 hC).2 ⟨h1,h2⟩)
end Go.Proofs.YtjimmglpkndemaaGreatC

/- What the small functions compute: words, nets, records, stores. Conditions: none. -/
import Derived.Test.YtjimmglpkndemaaGreatXGX
namespace Go.Proofs.YtjimmglpkndemaaGreatC
attribute [local irreducible] jp
open Int renaming reduceLE -> aj, reduceLT -> ak, reduceEq -> ap, reduceGT -> aq, reduceGE -> au, reduceAdd -> av, reduceSub -> aw, reduceMul -> ax, reduceNeg -> ay
set_option linter.unusedVariables false
set_option linter.unusedSimpArgs false
theorem jL(p:Prop) [Decidable p](x y:Bool):(if p then some [bb x]else some [bb y])=some [bb (if p then x else y)]:=by by_cases h:p<;>simp[h]
def gj(a lo hi:Int):Bool:=decide (lo<=a)&&decide (a<=hi)
theorem bg{a lo hi:Int}:gj a lo hi=true↔lo<=a∧a<=hi:=by simp[gj]
theorem vA(a lo hi:Int):rU [ii a,ii lo,ii hi]=some [bb (gj a lo hi)]:=by
 rw[atg];simp(disch:=omega) only[↓pQ,pS,↓reduceIte,aj,ak,ap,aq,au,av,aw,ax,ay,OW,jL];unfold gj
 by_cases h:a>=lo<;>simp[h]<;>omega
theorem wg(a lo hi:Int):rT [ii a,ii lo,ii hi]=some [bb (gj a lo hi)]:=by
 rw[arv];simp(disch:=omega) only[↓pQ,pS,↓reduceIte,aj,ak,ap,aq,au,av,aw,ax,ay,N7,jL];unfold gj
 by_cases h:a>=lo<;>simp[h]<;>omega
def nA(n:Int)(l:bO):Bool:=gj n 1 6&&gj l.a 1 n&&gj l.b 1 n&&decide (l.a<l.b)&&gj l.cost 1 1000&&gj l.ae 0 2
theorem ave(n a b c ar:Int):C7 [ii n,ii a,ii b,ii c,ii ar]=some [bb (nA n ⟨a,b,c,ar⟩)]:=by
 rw[ati];simp(disch:=omega) only[↓pQ,pS,↓reduceIte,aj,ak,ap,aq,au,av,aw,ax,ay,OX,vA,jL];unfold nA
 grind
theorem avf(n a b c ar:Int):CP [ii n,ii a,ii b,ii c,ii ar]=some [bb (nA n ⟨a,b,c,ar⟩)]:=by
 rw[arx];simp(disch:=omega) only[↓pQ,pS,↓reduceIte,aj,ak,ap,aq,au,av,aw,ax,ay,N8,wg,jL];unfold nA
 grind
def mM(x y:bO):Bool:=decide (x.a<y.a∨x.a=y.a∧(x.b<y.b∨x.b=y.b∧x.ae<y.ae))
theorem avg(a b c d a' b' c' d':Int):C8 [ii a,ii b,ii c,ii d,ii a',ii b',ii c',ii d']=some [bb (mM ⟨a,b,c,d⟩ ⟨a',b',c',d'⟩)]:=by
 rw[atk];simp(disch:=omega) only[↓pQ,pS,↓reduceIte,aj,ak,ap,aq,au,av,aw,ax,ay,OY,jL];unfold mM
 grind
theorem avh(a b c d a' b' c' d':Int):XH [ii a,ii b,ii c,ii d,ii a',ii b',ii c',ii d']=some [bb (mM ⟨a,b,c,d⟩ ⟨a',b',c',d'⟩)]:=by
 rw[arz];simp(disch:=omega) only[↓pQ,pS,↓reduceIte,aj,ak,ap,aq,au,av,aw,ax,ay,N9,jL];unfold mM
 grind
def tG(x y:cg):Bool:=decide (x.key<y.key∨x.key=y.key∧x.owner<y.owner)
theorem avi(a b c a' b' c':Int)(d d':Bool):C9 [ii a,ii b,ii c,bb d,ii a',ii b',ii c',bb d']=some [bb (tG ⟨a,b,c,d⟩ ⟨a',b',c',d'⟩)]:=by
 rw[atm];simp(disch:=omega) only[↓pQ,pS,↓reduceIte,aj,ak,ap,aq,au,av,aw,ax,ay,OZ,jL];unfold tG
 grind
theorem avj(a b c a' b' c':Int)(d d':Bool):XK [ii a,ii b,ii c,bb d,ii a',ii b',ii c',bb d']=some [bb (tG ⟨a,b,c,d⟩ ⟨a',b',c',d'⟩)]:=by
 rw[arB];simp(disch:=omega) only[↓pQ,pS,↓reduceIte,aj,ak,ap,aq,au,av,aw,ax,ay,N_,jL];unfold tG
 grind
def ei{α:Type} [Inhabited α](ok:α->Bool)(lt:α->α->Bool)(l:List α):Bool:=
 kC l.length λi=>ok (gt l i)&&(!decide ((i:Int)>0)||lt (gt l (i-1:Int)) (gt l i))
def xl(n:Int)(t:cg):Bool:=gj t.owner 1 n&&gj t.key 1 9&&gj t.cost 1 1000
def yw(x:Net):Bool:=gj x.n 1 6&&decide (x.aE.length<=12)&&decide (x.aM.length<=4)&&ei (nA x.n) mM x.aE&&ei (xl x.n) tG x.aM
theorem avk(n:Int)(ls:List bO)(ts:List cg)(h1:ls.length<=1048576)(h2:ts.length<=1048576):CQ [ii n,.l (ls.map dB),.l (ts.map ed)]=some [bb (yw ⟨n,ls,ts⟩)]:=by
 rw[arD];simp(disch:=omega) only[↓pQ,pS,↓reduceIte,aj,ak,ap,aq,au,av,aw,ax,ay,Oa,Ob,Oc,wg]
 rw[show iter _ _ _=(some [bb (ei (nA n) mM ls&&ei (xl n) tG ts)]:Option (List T)) from ?_]
 ·simp(disch:=omega) only[↓pQ,pS,↓reduceIte,aj,ak,ap,aq,au,av,aw,ax,ay,Oa,Ob,jL];unfold yw;grind
 refine(CK ls.length (λi=>[bb false,ii i]) (λi=>nA n (gt ls i)&&(!decide ((i:Int)>0)||mM (gt ls (i-1:Int)) (gt ls i))) (fE:=some [bb false]) (gW:=some [bb (ei (xl n) tG ts)]) ?_ ?_ (by unfold rounds;omega)).trans ?_
 ·intro i hi s
  simp(disch:=omega) only[↓pQ,pS,↓reduceIte,aj,ak,ap,aq,au,av,aw,ax,ay,Oa,Ob,hi,avf,avh]
  grind
 ·intro s
  simp(disch:=omega) only[↓pQ,pS,↓reduceIte,aj,ak,ap,aq,au,av,aw,ax,ay,Oa,Ob,]
  refine(CK ts.length (λi=>[bb false,ii i]) (λi=>xl n (gt ts i)&&(!decide ((i:Int)>0)||tG (gt ts (i-1:Int)) (gt ts i))) (fE:=some [bb false]) (gW:=some [bb true]) ?_ ?_ (by unfold rounds;omega)).trans ?_
  ·intro i hi s
   simp(disch:=omega) only[↓pQ,pS,↓reduceIte,aj,ak,ap,aq,au,av,aw,ax,ay,Oa,Ob,hi,wg,avj]
   unfold xl
   grind
  ·intro s
   simp(disch:=omega) only[↓pQ,pS,↓reduceIte,aj,ak,ap,aq,au,av,aw,ax,ay,Oa,Ob,]
  ·rw[jL];unfold ei;simp
 ·rw[jL];unfold ei;simp
theorem avl(n:Int)(ls:List bO)(ts:List cg)(h1:ls.length<=1048576)(h2:ts.length<=1048576):C_ [ii n,.l (ls.map dB),.l (ts.map ed)]=some [bb (yw ⟨n,ls,ts⟩)]:=by
 rw[ato];simp(disch:=omega) only[↓pQ,pS,↓reduceIte,aj,ak,ap,aq,au,av,aw,ax,ay,O0,O1,O2,vA]
 rw[show iter _ _ _=(some [bb (ei (nA n) mM ls&&ei (xl n) tG ts)]:Option (List T)) from ?_]
 ·simp(disch:=omega) only[↓pQ,pS,↓reduceIte,aj,ak,ap,aq,au,av,aw,ax,ay,O0,O1,jL];unfold yw;grind
 refine(CK ls.length (λi=>[bb false,ii i]) (λi=>nA n (gt ls i)&&(!decide ((i:Int)>0)||mM (gt ls (i-1:Int)) (gt ls i))) (fE:=some [bb false]) (gW:=some [bb (ei (xl n) tG ts)]) ?_ ?_ (by unfold rounds;omega)).trans ?_
 ·intro i hi s
  simp(disch:=omega) only[↓pQ,pS,↓reduceIte,aj,ak,ap,aq,au,av,aw,ax,ay,O0,O1,hi,ave,avg]
  grind
 ·intro s
  simp(disch:=omega) only[↓pQ,pS,↓reduceIte,aj,ak,ap,aq,au,av,aw,ax,ay,O0,O1,]
  refine(CK ts.length (λi=>[bb false,ii i]) (λi=>xl n (gt ts i)&&(!decide ((i:Int)>0)||tG (gt ts (i-1:Int)) (gt ts i))) (fE:=some [bb false]) (gW:=some [bb true]) ?_ ?_ (by unfold rounds;omega)).trans ?_
  ·intro i hi s
   simp(disch:=omega) only[↓pQ,pS,↓reduceIte,aj,ak,ap,aq,au,av,aw,ax,ay,O0,O1,hi,vA,avi]
   unfold xl
   grind
  ·intro s
   simp(disch:=omega) only[↓pQ,pS,↓reduceIte,aj,ak,ap,aq,au,av,aw,ax,ay,O0,O1,]
  ·rw[jL];unfold ei;simp
 ·rw[jL];unfold ei;simp
def iE(a b ar:Int)(l:bO):Bool:=l.ae==ar&&(l.a==a&&l.b==b||l.a==b&&l.b==a)
theorem PU{α:Type}(p:α->Bool)(l:List α):(if eV p l<0 then some [ii (-1)]else some [ii (eV p l)])=some [ii (eV p l)]:=by
 have h:=MY p l
 by_cases h':eV p l<0
 ·rw[if_pos h',show eV p l=-1 by omega]
 ·rw[if_neg h']
theorem PV(t0 t2:T)(ls:List bO)(a b ar:Int)(h1:ls.length<=1048576):HB [t0,.l (ls.map dB),t2,ii a,ii b,ii ar]=some [ii (eV (iE a b ar) ls)]:=by
 rw[atq];simp(disch:=omega) only[↓pQ,pS,↓reduceIte,aj,ak,ap,aq,au,av,aw,ax,ay,ky_,O3]
 refine(MZ ls (λi=>[ii 0,ii i]) (iE a b ar) (λi=>some [ii i]) (kE:=some [ii (-1)]) ?_ ?_ (by unfold rounds;omega)).trans (PU _ _)
 ·intro i hi s
  simp(disch:=omega) only[↓pQ,pS,↓reduceIte,aj,ak,ap,aq,au,av,aw,ax,ay,ky_,hi]
  unfold iE
  grind
 ·intro s
  simp(disch:=omega) only[↓pQ,pS,↓reduceIte,aj,ak,ap,aq,au,av,aw,ax,ay,ky_,]
def om(ls:List bO)(a b ar:Int):Int:=if eV (iE a b ar) ls<0 then 0 else(gt ls (eV (iE a b ar) ls)).cost
theorem DK(t0 t2:T)(ls:List bO)(a b ar:Int)(h1:ls.length<=1048576):CR [t0,.l (ls.map dB),t2,ii a,ii b,ii ar]=some [ii (om ls a b ar)]:=by
 rw[arF];simp(disch:=omega) only[↓pQ,pS,↓reduceIte,aj,ak,ap,aq,au,av,aw,ax,ay,kx_,Od]
 refine(MZ ls (λi=>[ii 0,ii i]) (iE a b ar) (λi=>some [ii (gt ls i).cost]) (kE:=some [ii 0]) ?_ ?_ (by unfold rounds;omega)).trans ?_
 ·intro i hi s
  simp(disch:=omega) only[↓pQ,pS,↓reduceIte,aj,ak,ap,aq,au,av,aw,ax,ay,kx_,hi]
  unfold iE
  grind
 ·intro s
  simp(disch:=omega) only[↓pQ,pS,↓reduceIte,aj,ak,ap,aq,au,av,aw,ax,ay,kx_,]
 ·unfold om
  split<;>rfl
theorem avm(t0 t2:T)(ls:List bO)(a b ar:Int)(h1:ls.length<=1048576):Dd [t0,.l (ls.map dB),t2,ii a,ii b,ii ar]=some [ii (om ls a b ar)]:=by
 have h:=sm (iE a b ar) ls
 rw[atO];simp(disch:=omega) only[↓pQ,pS,↓reduceIte,aj,ak,ap,aq,au,av,aw,ax,ay,Pg,PV]
 unfold om
 grind
theorem PW{ls:List bO}{n:Int}(h:ei (nA n) mM ls=true)(a b ar:Int):om ls a b ar=0↔eV (iE a b ar) ls<0:=by
 unfold om
 by_cases h':eV (iE a b ar) ls<0
 ·simp[h']
 ·rw[if_neg h']
  have hl:=sm (iE a b ar) ls
  have:=bY.1 h (eV (iE a b ar) ls).toNat (by omega)
  rw[show(((eV (iE a b ar) ls).toNat:Nat):Int)=eV (iE a b ar) ls by omega]at this
  simp only[bD,nA,bg]at this
  omega
def z'(ok:Int->Int->Bool)(l:List Int):Bool:=
 kC (l.length/2) λk=>ok (gt l (2*k:Int)) (gt l (2*k+1:Int))&&(!decide ((k:Int)>0)||decide (gt l (2*k-2:Int)<gt l (2*k:Int)∨gt l (2*k-2:Int)=gt l (2*k:Int)∧gt l (2*k-1:Int)<gt l (2*k+1:Int)))
theorem avn(id bh n:Int)(ls:List bO)(t2 t3:T)(hd:List Int)(h1:ls.length<=1048576)(h2:hd.length<=1048576):
  kn_ [ii id,ii bh,ii n,.l (ls.map dB),t2,.l (hd.map aB),t3]=some [bb (decide (hd.length%2=0)&&z' (λv a=>decide (0<=eV (iE id v a) ls)) hd)]:=by
 rw[ats];simp(disch:=omega) only[↓pQ,pS,↓reduceIte,aj,ak,ap,aq,au,av,aw,ax,ay,jY_,O4]
 have hm:=W8 hd.length
 by_cases he:hd.length%2=0
 ·simp only[hm,he,MX,not_true_eq_false,if_false]
  refine(uf (hd.length/2) (λk=>[bb false,ii (2*k)]) (λk=>decide (0<=eV (iE id (gt hd (2*k:Int)) (gt hd (2*k+1:Int))) ls)&&(!decide ((k:Int)>0)||decide (gt hd (2*k-2:Int)<gt hd (2*k:Int)∨gt hd (2*k-2:Int)=gt hd (2*k:Int)∧gt hd (2*k-1:Int)<gt hd (2*k+1:Int)))) (fE:=some [bb false]) (gW:=some [bb true]) rfl (dG (by omega)) ?_ ?_).trans ?_
  ·intro i hi s
   have bf:2*(i:Int)<hd.length:=by omega
   simp(disch:=omega) only[↓pQ,pS,↓reduceIte,aj,ak,ap,aq,au,av,aw,ax,ay,jY_,bf,PV,Int.mul_add]
   grind
  ·intro s
   have bf:¬(2*((hd.length/2:Nat):Int)<hd.length):=by omega
   simp(disch:=omega) only[↓pQ,pS,↓reduceIte,aj,ak,ap,aq,au,av,aw,ax,ay,jY_,bf]
  ·rw[jL];unfold z';simp
 ·have:¬((hd.length%2:Nat):Int)=0:=by omega
  simp only[hm,this,not_false_eq_true,if_true,he,decide_false,Bool.false_and]
theorem avo(id bh n:Int)(ls:List bO)(t2 t3:T)(hd:List Int)(h1:ls.length<=1048576)(h2:hd.length<=1048576):
  XR [ii id,ii bh,ii n,.l (ls.map dB),t2,.l (hd.map aB),t3]=some [bb (decide (hd.length%2=0)&&(decide (hd.length<=60)&&z' (λv a=>!decide (om ls id v a=0)) hd))]:=by
 rw[arH];simp(disch:=omega) only[↓pQ,pS,↓reduceIte,aj,ak,ap,aq,au,av,aw,ax,ay,qT_,Oe]
 have hm:=W8 hd.length
 by_cases he:hd.length%2=0
 ·have h9:¬((0:Int)=1):=by decide
  simp only[hm,he,MX,h9,if_false]
  by_cases h6:hd.length<=60
  ·have h7:¬((hd.length:Int)>60):=by omega
   simp only[h7,if_false]
   refine(uf (hd.length/2) (λk=>[bb false,ii (2*k)]) (λk=>!decide (om ls id (gt hd (2*k:Int)) (gt hd (2*k+1:Int))=0)&&(!decide ((k:Int)>0)||decide (gt hd (2*k-2:Int)<gt hd (2*k:Int)∨gt hd (2*k-2:Int)=gt hd (2*k:Int)∧gt hd (2*k-1:Int)<gt hd (2*k+1:Int)))) (fE:=some [bb false]) (gW:=some [bb true]) rfl (dG (by omega)) ?_ ?_).trans ?_
   ·intro i hi s
    have bf:2*(i:Int)<hd.length:=by omega
    simp(disch:=omega) only[↓pQ,pS,↓reduceIte,aj,ak,ap,aq,au,av,aw,ax,ay,qT_,bf,DK,Int.mul_add]
    grind
   ·intro s
    have bf:¬(2*((hd.length/2:Nat):Int)<hd.length):=by omega
    simp(disch:=omega) only[↓pQ,pS,↓reduceIte,aj,ak,ap,aq,au,av,aw,ax,ay,qT_,bf]
   ·rw[jL];unfold z';simp[h6]
  ·have h7:((hd.length:Int)>60):=by omega
   simp[h7,h6]
 ·have h8:((hd.length%2:Nat):Int)=1:=by omega
  simp only[hm,h8,if_true,he,decide_false,Bool.false_and]
def wh(o:Int)(l:List cB):Bool:=
 kC l.length λi=>gj (gt l i).to 1 6&& !decide ((gt l i).to=o)&&gj (gt l i).cost 1 1000&&(!decide ((i:Int)>0)||decide ((gt l (i-1:Int)).to<(gt l i).to))
theorem avp(t0 t1:T)(o:Int)(t3 t4:T)(l:List cB)(t6 t7:T)(h:l.length<=1048576):k9_ [t0,t1,ii o,t3,t4,.l (l.map fe),t6,t7]=some [bb (wh o l)]:=by
 rw[atu];simp(disch:=omega) only[↓pQ,pS,↓reduceIte,aj,ak,ap,aq,au,av,aw,ax,ay,kw_,O5]
 refine(uf l.length (λi=>[bb false,ii i]) (λi=>gj (gt l i).to 1 6&& !decide ((gt l i).to=o)&&gj (gt l i).cost 1 1000&&(!decide ((i:Int)>0)||decide ((gt l (i-1:Int)).to<(gt l i).to))) (fE:=some [bb false]) (gW:=some [bb true]) rfl (dG h) ?_ ?_).trans (jL _ _ _ |>.trans (by unfold wh;simp))
 ·intro i hi s
  simp(disch:=omega) only[↓pQ,pS,↓reduceIte,aj,ak,ap,aq,au,av,aw,ax,ay,kw_,hi,vA]
  grind
 ·intro s
  simp(disch:=omega) only[↓pQ,pS,↓reduceIte,aj,ak,ap,aq,au,av,aw,ax,ay,kw_,]
theorem avq(t0 t1:T)(o:Int)(t3 t4:T)(l:List cB)(t6 t7:T)(h:l.length<=1048576):XV [t0,t1,ii o,t3,t4,.l (l.map fe),t6,t7]=some [bb (wh o l)]:=by
 rw[arJ];simp(disch:=omega) only[↓pQ,pS,↓reduceIte,aj,ak,ap,aq,au,av,aw,ax,ay,jI_,Og]
 refine(uf l.length (λi=>[bb false,ii i]) (λi=>gj (gt l i).to 1 6&& !decide ((gt l i).to=o)&&gj (gt l i).cost 1 1000&&(!decide ((i:Int)>0)||decide ((gt l (i-1:Int)).to<(gt l i).to))) (fE:=some [bb false]) (gW:=some [bb true]) rfl (dG h) ?_ ?_).trans (jL _ _ _ |>.trans (by unfold wh;simp))
 ·intro i hi s
  simp(disch:=omega) only[↓pQ,pS,↓reduceIte,aj,ak,ap,aq,au,av,aw,ax,ay,jI_,hi,wg]
  grind
 ·intro s
  simp(disch:=omega) only[↓pQ,pS,↓reduceIte,aj,ak,ap,aq,au,av,aw,ax,ay,jI_,]
def eW(r:ah):Bool:=
 gj r.owner 1 6&&gj r.seq 1 100000&&
 if r.kind=1 then gj r.ae 0 2&&decide (r.key=0)&&wh r.owner r.aV&&decide (r.cost=0)&& !r.eY
 else if r.kind=2 then gj r.ae 0 2&&gj r.key 1 6&&decide ((r.aV.length:Int)=0)&&gj r.cost 0 60000&& !r.eY
 else if r.kind=3 then decide (r.ae=9)&&gj r.key 1 9&&decide ((r.aV.length:Int)=0)&&(gj r.cost 1 1000||decide (r.cost=60000))
 else false
theorem adB(a k o y s:Int)(l:List cB)(c:Int)(f:Bool)(h:l.length<=1048576):Np [ii a,ii k,ii o,ii y,ii s,.l (l.map fe),ii c,bb f]=some [bb (eW ⟨a,k,o,y,s,l,c,f⟩)]:=by
 rw[atw];simp(disch:=omega) only[↓pQ,pS,↓reduceIte,aj,ak,ap,aq,au,av,aw,ax,ay,O6,vA,avp,jL];unfold eW
 grind
theorem adC(a k o y s:Int)(l:List cB)(c:Int)(f:Bool)(h:l.length<=1048576):M9 [ii a,ii k,ii o,ii y,ii s,.l (l.map fe),ii c,bb f]=some [bb (eW ⟨a,k,o,y,s,l,c,f⟩)]:=by
 rw[arL];simp(disch:=omega) only[↓pQ,pS,↓reduceIte,aj,ak,ap,aq,au,av,aw,ax,ay,Oh,wg,avq,jL];unfold eW
 grind
def dO(a b:ah):Bool:=decide (a.ae=b.ae)&&(decide (a.kind=b.kind)&&(decide (a.owner=b.owner)&&decide (a.key=b.key)))
theorem sameKey_iff{a b:ah}:dO a b=true↔a.ae=b.ae∧a.kind=b.kind∧a.owner=b.owner∧a.key=b.key:=by simp[dO]
theorem PX(a k o y:Int)(s:T)(l c f:T)(a' k' o' y':Int)(s' l' c' f':T):HF [ii a,ii k,ii o,ii y,s,l,c,f,ii a',ii k',ii o',ii y',s',l',c',f']=some [bb (dO ⟨a,k,o,y,0,[],0,false⟩ ⟨a',k',o',y',0,[],0,false⟩)]:=by
 rw[atS];simp(disch:=omega) only[↓pQ,pS,↓reduceIte,aj,ak,ap,aq,au,av,aw,ax,ay,Pl,jL];unfold dO
 grind
theorem adD(a k o y:Int)(s:T)(l c f:T)(a' k' o' y':Int)(s' l' c' f':T):Nd [ii a,ii k,ii o,ii y,s,l,c,f,ii a',ii k',ii o',ii y',s',l',c',f']=some [bb (dO ⟨a,k,o,y,0,[],0,false⟩ ⟨a',k',o',y',0,[],0,false⟩)]:=by
 rw[ase];simp(disch:=omega) only[↓pQ,pS,↓reduceIte,aj,ak,ap,aq,au,av,aw,ax,ay,Oy,jL];unfold dO
 grind
def fo(a b:ah):Bool:=decide (a.ae<b.ae∨a.ae=b.ae∧(a.kind<b.kind∨a.kind=b.kind∧(a.owner<b.owner∨a.owner=b.owner∧a.key<b.key)))
theorem p7{a b:ah}:fo a b=true↔a.ae<b.ae∨a.ae=b.ae∧(a.kind<b.kind∨a.kind=b.kind∧(a.owner<b.owner∨a.owner=b.owner∧a.key<b.key)):=by simp[fo]
theorem PY(a k o y:Int)(s:T)(l c f:T)(a' k' o' y':Int)(s' l' c' f':T):Nq [ii a,ii k,ii o,ii y,s,l,c,f,ii a',ii k',ii o',ii y',s',l',c',f']=some [bb (fo ⟨a,k,o,y,0,[],0,false⟩ ⟨a',k',o',y',0,[],0,false⟩)]:=by
 rw[aty];simp(disch:=omega) only[↓pQ,pS,↓reduceIte,aj,ak,ap,aq,au,av,aw,ax,ay,O7,jL];unfold fo
 grind
theorem PZ(a k o y:Int)(s:T)(l c f:T)(a' k' o' y':Int)(s' l' c' f':T):M_ [ii a,ii k,ii o,ii y,s,l,c,f,ii a',ii k',ii o',ii y',s',l',c',f']=some [bb (fo ⟨a,k,o,y,0,[],0,false⟩ ⟨a',k',o',y',0,[],0,false⟩)]:=by
 rw[arN];simp(disch:=omega) only[↓pQ,pS,↓reduceIte,aj,ak,ap,aq,au,av,aw,ax,ay,Oi,jL];unfold fo
 grind
theorem adE(a b:ah):fo ⟨a.ae,a.kind,a.owner,a.key,0,[],0,false⟩ ⟨b.ae,b.kind,b.owner,b.key,0,[],0,false⟩=fo a b:=rfl
def E2(a b:List cB):Bool:=decide (a.length=b.length)&&kC a.length λi=>decide ((gt a i).to=(gt b i).to)&&decide ((gt a i).cost=(gt b i).cost)
def wi(a b:ah):Bool:=dO a b&&decide (a.cost=b.cost)&&(a.eY==b.eY)&&E2 a.aV b.aV
theorem P0(a k o y s:Int)(l:List cB)(c:Int)(f:Bool)(a' k' o' y' s':Int)(l':List cB)(c':Int)(f':Bool)(h:l.length<=1048576):Ny [ii a,ii k,ii o,ii y,ii s,.l (l.map fe),ii c,bb f,ii a',ii k',ii o',ii y',ii s',.l (l'.map fe),ii c',bb f']=some [bb (wi ⟨a,k,o,y,s,l,c,f⟩ ⟨a',k',o',y',s',l',c',f'⟩)]:=by
 rw[aur];simp(disch:=omega) only[↓pQ,pS,↓reduceIte,aj,ak,ap,aq,au,av,aw,ax,ay,Sg,PC,PX]
 by_cases hl:(l.length:Int)=l'.length
 ·rw[show iter _ _ _=(some [bb (E2 l l')]:Option (List T)) from ?_]
  ·rw[show dO ⟨a,k,o,y,0,[],0,false⟩ ⟨a',k',o',y',0,[],0,false⟩=dO ⟨a,k,o,y,s,l,c,f⟩ ⟨a',k',o',y',s',l',c',f'⟩ from rfl]
   simp(disch:=omega) only[↓pQ,pS,↓reduceIte,aj,ak,ap,aq,au,av,aw,ax,ay,Sg,jL,hl];unfold wi;grind
  refine(uf l.length (λi=>[bb false,ii i]) (λi=>decide ((gt l i).to=(gt l' i).to)&&decide ((gt l i).cost=(gt l' i).cost)) (fE:=some [bb false]) (gW:=some [bb true]) rfl (dG h) ?_ ?_).trans (jL _ _ _ |>.trans (by unfold E2;simp;omega))
  ·intro i hi s
   simp(disch:=omega) only[↓pQ,pS,↓reduceIte,aj,ak,ap,aq,au,av,aw,ax,ay,Sg,hi]
   grind
  ·intro s
   simp(disch:=omega) only[↓pQ,pS,↓reduceIte,aj,ak,ap,aq,au,av,aw,ax,ay,Sg,]
 ·rw[show dO ⟨a,k,o,y,0,[],0,false⟩ ⟨a',k',o',y',0,[],0,false⟩=dO ⟨a,k,o,y,s,l,c,f⟩ ⟨a',k',o',y',s',l',c',f'⟩ from rfl]
  have:E2 l l'=false:=by unfold E2;simp;omega
  simp(disch:=omega) only[↓pQ,pS,↓reduceIte,aj,ak,ap,aq,au,av,aw,ax,ay,Sg,jL,hl,not_false_eq_true];unfold wi;grind
theorem P1(a k o y s:Int)(l:List cB)(c:Int)(f:Bool)(a' k' o' y' s':Int)(l':List cB)(c':Int)(f':Bool)(h:l.length<=1048576):Hz [ii a,ii k,ii o,ii y,ii s,.l (l.map fe),ii c,bb f,ii a',ii k',ii o',ii y',ii s',.l (l'.map fe),ii c',bb f']=some [bb (wi ⟨a,k,o,y,s,l,c,f⟩ ⟨a',k',o',y',s',l',c',f'⟩)]:=by
 rw[asS];simp(disch:=omega) only[↓pQ,pS,↓reduceIte,aj,ak,ap,aq,au,av,aw,ax,ay,Sd,OO,adD]
 by_cases hl:(l.length:Int)=l'.length
 ·rw[show iter _ _ _=(some [bb (E2 l l')]:Option (List T)) from ?_]
  ·rw[show dO ⟨a,k,o,y,0,[],0,false⟩ ⟨a',k',o',y',0,[],0,false⟩=dO ⟨a,k,o,y,s,l,c,f⟩ ⟨a',k',o',y',s',l',c',f'⟩ from rfl]
   simp(disch:=omega) only[↓pQ,pS,↓reduceIte,aj,ak,ap,aq,au,av,aw,ax,ay,Sd,jL,hl];unfold wi;grind
  refine(uf l.length (λi=>[bb false,ii i]) (λi=>decide ((gt l i).to=(gt l' i).to)&&decide ((gt l i).cost=(gt l' i).cost)) (fE:=some [bb false]) (gW:=some [bb true]) rfl (dG h) ?_ ?_).trans (jL _ _ _ |>.trans (by unfold E2;simp;omega))
  ·intro i hi s
   simp(disch:=omega) only[↓pQ,pS,↓reduceIte,aj,ak,ap,aq,au,av,aw,ax,ay,Sd,hi]
   grind
  ·intro s
   simp(disch:=omega) only[↓pQ,pS,↓reduceIte,aj,ak,ap,aq,au,av,aw,ax,ay,Sd,]
 ·rw[show dO ⟨a,k,o,y,0,[],0,false⟩ ⟨a',k',o',y',0,[],0,false⟩=dO ⟨a,k,o,y,s,l,c,f⟩ ⟨a',k',o',y',s',l',c',f'⟩ from rfl]
  have:E2 l l'=false:=by unfold E2;simp;omega
  simp(disch:=omega) only[↓pQ,pS,↓reduceIte,aj,ak,ap,aq,au,av,aw,ax,ay,Sd,jL,hl,not_false_eq_true];unfold wi;grind
def df(s:List ah):Bool:=decide (s.length<=150)&&ei eW fo s
def aR(s:List ah):Prop:=∀r∈s,r.aV.length<=1048576
theorem aR.gt{s:List ah}(h:aR s){n:Int}(h0:0<=n)(h1:n<s.length):(Go.Proofs.YtjimmglpkndemaaGreatC.gt s n).aV.length<=1048576:=h _ (lg h0 h1)
theorem Iw{s:List ah}(h:fb zP s<=1048576):aR s:=λr hr=>by
 have h1:=akS (f:=zP) hr
 have h2:=J3 (f:=xh) r.aV
 have h3:zP r=fb xh r.aV:=rfl
 omega
theorem Ix(s:List ah)(h:s.length<=1048576)(hn:aR s):C' [.l (s.map ai)]=some [bb (df s)]:=by
 rw[atA];simp(disch:=omega) only[↓pQ,pS,↓reduceIte,aj,ak,ap,aq,au,av,aw,ax,ay,jP_,O8]
 refine(uf s.length (λi=>[bb false,ii i]) (λi=>eW (gt s i)&&(!decide ((i:Int)>0)||fo (gt s (i-1:Int)) (gt s i))) (fE:=some [bb false]) (gW:=some [bb (decide (s.length<=150))]) rfl (dG h) ?_ ?_).trans (jL _ _ _ |>.trans (by unfold df ei;grind))
 ·intro i hi s1
  have:=hn.gt (n:=i) (by omega) hi
  simp(disch:=omega) only[↓pQ,pS,↓reduceIte,aj,ak,ap,aq,au,av,aw,ax,ay,jP_,hi,adB,PY,adE]
  grind
 ·intro s1
  simp(disch:=omega) only[↓pQ,pS,↓reduceIte,aj,ak,ap,aq,au,av,aw,ax,ay,jP_,]
  simp;omega
theorem kk_(s:List ah)(h:s.length<=1048576)(hn:aR s):zV [.l (s.map ai)]=some [bb (df s)]:=by
 rw[arP];simp(disch:=omega) only[↓pQ,pS,↓reduceIte,aj,ak,ap,aq,au,av,aw,ax,ay,jx_,Oj]
 by_cases h1:s.length<=150
 ·have h2:¬((s.length:Int)>150):=by omega
  simp only[h2,if_false]
  refine(uf s.length (λi=>[bb false,ii i]) (λi=>eW (gt s i)&&(!decide ((i:Int)>0)||fo (gt s (i-1:Int)) (gt s i))) (fE:=some [bb false]) (gW:=some [bb true]) rfl (dG h) ?_ ?_).trans (jL _ _ _ |>.trans (by unfold df ei;grind))
  ·intro i hi s1
   have:=hn.gt (n:=i) (by omega) hi
   simp(disch:=omega) only[↓pQ,pS,↓reduceIte,aj,ak,ap,aq,au,av,aw,ax,ay,jx_,hi,adC,PZ,adE]
   grind
  ·intro s1
   simp(disch:=omega) only[↓pQ,pS,↓reduceIte,aj,ak,ap,aq,au,av,aw,ax,ay,jx_,]
 ·have h2:((s.length:Int)>150):=by omega
  unfold df
  simp[h2,h1]
theorem adG(f:Nat->Int):∀(n:Nat),(∀k,k+1<n->f k<f (k+1))->∀k,k<n->f 0+k<=f k
 |n,h,0,_=>by simp
 |n,h,k+1,hk=>by
  have:=adG f n h k (by omega)
  have:=h k hk
  omega
theorem avr{n:Int}{ls:List bO}(h:ei (nA n) mM ls=true){id:Int}{hd:List Int}(hp:z' (λv a=>decide (0<=eV (iE id v a) ls)) hd=true):hd.length/2<=18:=by
 have hk:=λk hk=>bY.1 hp k hk
 have hj:∀k,k<hd.length/2->1<=gt hd (2*k:Int)∧gt hd (2*k:Int)<=6∧0<=gt hd (2*k+1:Int)∧gt hd (2*k+1:Int)<=2:=by
  intro k nI
  have h1:=hk k nI
  simp only[bD,decide_eq_true_eq]at h1
  have h2:=ue _ _ h1.1
  have h3:=sm (iE id (gt hd (2*k:Int)) (gt hd (2*k+1:Int))) ls
  have h4:=bY.1 h (eV (iE id (gt hd (2*k:Int)) (gt hd (2*k+1:Int))) ls).toNat (by omega)
  rw[show(((eV (iE id (gt hd (2*k:Int)) (gt hd (2*k+1:Int))) ls).toNat:Nat):Int)=eV (iE id (gt hd (2*k:Int)) (gt hd (2*k+1:Int))) ls by omega]at h4
  simp only[iE,bD,Bool.or_eq_true,beq_iff_eq]at h2
  simp only[bD,nA,bg,decide_eq_true_eq]at h4
  omega
 rcases Nat.eq_zero_or_pos (hd.length/2)with h0|h0
 ·omega
 have:=adG (λk=>3*gt hd (2*k:Int)+gt hd (2*k+1:Int)) (hd.length/2) (λk nI=>?_) (hd.length/2-1) (by omega)
 ·have h1:=hj 0 (by omega)
  have h2:=hj (hd.length/2-1) (by omega)
  omega
 ·have h1:=hk (k+1) nI
  have h2:=hj k (by omega)
  have h3:=hj (k+1) nI
  simp only[bD,Bool.or_eq_true,decide_eq_true_eq,Bool.not_eq_true',decide_eq_false_iff_not]at h1
  simp only[CI,CJ,show(2:Int)*((k:Int)+1)=2*k+2 by omega]at h1 h3⊢
  simp only[show(2:Int)*k+2-2=2*k by omega,show(2:Int)*k+2-1=2*k+1 by omega]at h1
  omega
def kf(x:Self):Bool:=yw x.net&&(gj x.id 1 x.net.n&&(gj x.bh 0 90&&(decide (x.heard.length%2=0)&&z' (λv a=>decide (0<=eV (iE x.id v a) x.net.aE)) x.heard&&df x.store)))
theorem Iy(id bh n:Int)(ls:List bO)(ts:List cg)(hd:List Int)(st:List ah)(h1:ls.length<=1048576)(h2:ts.length<=1048576)(h3:hd.length<=1048576)(h4:st.length<=1048576)(h5:aR st):
  Da [ii id,ii bh,ii n,.l (ls.map dB),.l (ts.map ed),.l (hd.map aB),.l (st.map ai)]=some [bb (kf ⟨id,bh,⟨n,ls,ts⟩,hd,st⟩)]:=by
 rw[atC];simp(disch:=omega) only[↓pQ,pS,↓reduceIte,aj,ak,ap,aq,au,av,aw,ax,ay,O9,avl,vA,avn,Ix _ h4 h5,jL];unfold kf
 grind
theorem Iz(id bh n:Int)(ls:List bO)(ts:List cg)(hd:List Int)(st:List ah)(h1:ls.length<=1048576)(h2:ts.length<=1048576)(h3:hd.length<=1048576)(h4:st.length<=1048576)(h5:aR st):
  CS [ii id,ii bh,ii n,.l (ls.map dB),.l (ts.map ed),.l (hd.map aB),.l (st.map ai)]=some [bb (kf ⟨id,bh,⟨n,ls,ts⟩,hd,st⟩)]:=by
 rw[arR];simp(disch:=omega) only[↓pQ,pS,↓reduceIte,aj,ak,ap,aq,au,av,aw,ax,ay,Ol,avk,wg,avo,kk_ _ h4 h5,jL]
 have key:yw ⟨n,ls,ts⟩=true->(decide (hd.length<=60)&&z' (λv a=>!decide (om ls id v a=0)) hd)=z' (λv a=>decide (0<=eV (iE id v a) ls)) hd:=by
  intro hn
  have hl:ei (nA n) mM ls=true:=by simp only[yw,bD]at hn;exact hn.1.2
  have he:(λv a=>!decide (om ls id v a=0))=λv a=>decide (0<=eV (iE id v a) ls):=by
   funext v a
   have:=PW hl id v a
   by_cases hc:om ls id v a=0<;>simp[hc]<;>omega
  rw[he]
  cases hp:z' (λv a=>decide (0<=eV (iE id v a) ls)) hd with
  |false=>simp
  |true=>have:=avr hl hp;simp;omega
 unfold kf
 grind
def Aa(a b:List Int):Bool:=decide ((a.length:Int)=b.length)&&kC a.length λi=>decide (gt a i=gt b i)
theorem ju{a b:List Int}:Aa a b=true↔a=b:=by
 simp only[Aa,bD,decide_eq_true_eq,bY]
 constructor
 ·rintro⟨h1,h2⟩
  refine List.ext_getElem (by omega) λi hi hj=>?_
  have:=h2 i hi
  rwa[eC hi,eC hj]at this
 ·rintro rfl
  exact⟨rfl,λ_ _=>rfl⟩
theorem avs(a b:List Int)(h:a.length<=1048576):jk_ [.l (a.map aB),.l (b.map aB)]=some [bb (Aa a b)]:=by
 rw[atI];simp(disch:=omega) only[↓pQ,pS,↓reduceIte,aj,ak,ap,aq,au,av,aw,ax,ay,qV_,Pb]
 by_cases hl:(a.length:Int)=b.length
 ·simp only[hl,not_true_eq_false,if_false]
  refine(uf a.length (λi=>[bb false,ii i]) (λi=>decide (gt a i=gt b i)) (fE:=some [bb false]) (gW:=some [bb true]) rfl (dG h) ?_ ?_).trans (jL _ _ _ |>.trans (by unfold Aa;simp[hl]))
  ·intro i hi s
   have eg:=hl▸hi
   simp(disch:=omega) only[↓pQ,pS,↓reduceIte,aj,ak,ap,aq,au,av,aw,ax,ay,qV_,hi,eg]
   grind
  ·intro s
   simp(disch:=omega) only[↓pQ,pS,↓reduceIte,aj,ak,ap,aq,au,av,aw,ax,ay,qV_,hl]
 ·unfold Aa;simp[hl]
theorem avt(a b:List Int)(h:a.length<=1048576):Yd [.l (a.map aB),.l (b.map aB)]=some [bb (Aa a b)]:=by
 rw[arV];simp(disch:=omega) only[↓pQ,pS,↓reduceIte,aj,ak,ap,aq,au,av,aw,ax,ay,uu_,On]
 by_cases hl:(a.length:Int)=b.length
 ·simp only[hl,not_true_eq_false,if_false]
  refine(uf a.length (λi=>[bb false,ii i]) (λi=>decide (gt a i=gt b i)) (fE:=some [bb false]) (gW:=some [bb true]) rfl (dG h) ?_ ?_).trans (jL _ _ _ |>.trans (by unfold Aa;simp[hl]))
  ·intro i hi s
   have eg:=hl▸hi
   simp(disch:=omega) only[↓pQ,pS,↓reduceIte,aj,ak,ap,aq,au,av,aw,ax,ay,uu_,hi,eg]
   grind
  ·intro s
   simp(disch:=omega) only[↓pQ,pS,↓reduceIte,aj,ak,ap,aq,au,av,aw,ax,ay,uu_,hl]
 ·unfold Aa;simp[hl]
def DL(c:List Int)(e:dk):List Int:=if e.both=true then c++[e.node,e.ae]else c
def kj(l:List dk):List Int:=l.foldl DL []
theorem P2(c:List Int)(e:dk):(DL c e).length<=c.length+2:=by
 unfold DL;split<;>simp
theorem j3_(l:List dk):(kj l).length<=2*l.length:=
 J6 (Inv:=λi (c:List Int)=>c.length<=2*i) (by simp) λi c hi hc=>by have:=P2 c (gt l i);omega
theorem adI(l:List dk)(h:l.length<=1048576):Nr [.l (l.map b8)]=some [.l ((kj l).map aB)]:=by
 rw[atG];simp(disch:=omega) only[↓pQ,pS,↓reduceIte,aj,ak,ap,aq,au,av,aw,ax,ay,jG_,O']
 refine iP l (λi c=>[.l (c.map aB),ii i]) DL (λc=>some [T.l (c.map aB)]) [] (λi c=>c.length<=2*i) rfl (dG h) (by simp) ?_ ?_
 ·intro i c hi hc
  have hl:=P2 c (gt l i)
  refine⟨by omega,λs=>?_⟩
  simp(disch:=omega) only[↓pQ,pS,↓reduceIte,aj,ak,ap,aq,au,av,aw,ax,ay,jG_,hi]
  unfold DL
  split<;>rfl
 ·intro c s hc
  simp(disch:=omega) only[↓pQ,pS,↓reduceIte,aj,ak,ap,aq,au,av,aw,ax,ay,jG_,]
theorem adJ(l:List dk)(h:l.length<=1048576):Na [.l (l.map b8)]=some [.l ((kj l).map aB)]:=by
 rw[arT];simp(disch:=omega) only[↓pQ,pS,↓reduceIte,aj,ak,ap,aq,au,av,aw,ax,ay,q1_,Om]
 refine iP l (λi c=>[.l (c.map aB),ii i]) DL (λc=>some [T.l (c.map aB)]) [] (λi c=>c.length<=2*i) rfl (dG h) (by simp) ?_ ?_
 ·intro i c hi hc
  have hl:=P2 c (gt l i)
  refine⟨by omega,λs=>?_⟩
  simp(disch:=omega) only[↓pQ,pS,↓reduceIte,aj,ak,ap,aq,au,av,aw,ax,ay,q1_,hi]
  unfold DL
  split<;>rfl
 ·intro c s hc
  simp(disch:=omega) only[↓pQ,pS,↓reduceIte,aj,ak,ap,aq,au,av,aw,ax,ay,q1_,]
def oq(ls:List bO)(id:Int)(v:Nat)(c:List dk)(a:Nat):List dk:=if 0<=eV (iE id (v+1) a) ls then c++[⟨v+1,a,0,false⟩]else c
def yx(ls:List bO)(id:Int)(c:List dk)(v:Nat):List dk:=(List.range 3).foldl (oq ls id v) c
def q8(ls:List bO)(id n:Int):List dk:=(List.range n.toNat).foldl (yx ls id) []
theorem kp_(ls:List bO)(id:Int)(v:Nat)(c:List dk)(a:Nat):(oq ls id v c a).length<=c.length+1:=by
 unfold oq;split<;>simp
theorem P3(ls:List bO)(id:Int)(c:List dk)(v:Nat):(yx ls id c v).length<=c.length+3:=by
 unfold yx
 have h1:=kp_ ls id v c 0
 have h2:=kp_ ls id v (oq ls id v c 0) 1
 have h3:=kp_ ls id v (oq ls id v (oq ls id v c 0) 1) 2
 show(oq ls id v (oq ls id v (oq ls id v c 0) 1) 2).length<=_
 omega
theorem avu(n:Int)(ls:List bO)(t2:T)(id:Int)(h:n<=6)(h1:ls.length<=1048576):Db [ii n,.l (ls.map dB),t2,ii id]=some [.l ((q8 ls id n).map b8)]:=by
 rw[atE];simp only[O_]
 refine sn n.toNat (λi c=>[.l (c.map b8),ii (i+1)]) (yx ls id) (λc=>some [T.l (c.map b8)]) [] (λi c=>c.length<=3*i) rfl (dG (by omega)) (by simp) ?_ ?_
 ·intro i c hi hc
  have hl:=P3 ls id c i
  refine⟨by omega,λs=>?_⟩
  have eg:(i:Int)+1<=n:=by omega
  simp(disch:=omega) only[↓pQ,pS,↓reduceIte,aj,ak,ap,aq,au,av,aw,ax,ay,qC_,qG_,eg]
  refine sn 3 (λa c=>[.l (c.map b8),ii a]) (oq ls id i) (λc=>s [T.l (c.map b8),ii ((i+1:Nat)+1)]) c (λa c=>c.length<=3*i+a) rfl (by unfold rounds;omega) (by omega) ?_ ?_
  ·intro a c ha hc
   have hl:=kp_ ls id i c a
   refine⟨by omega,λs=>?_⟩
   have xm:(a:Int)<=2:=by omega
   simp(disch:=omega) only[↓pQ,pS,↓reduceIte,aj,ak,ap,aq,au,av,aw,ax,ay,qC_,qG_,xm,PV]
   unfold oq
   split<;>rfl
  ·intro c s' hc
   simp(disch:=omega) only[↓pQ,pS,↓reduceIte,aj,ak,ap,aq,au,av,aw,ax,ay,qC_,qG_,]
 ·intro c s hc
  have eg:¬((n.toNat:Int)+1<=n):=by omega
  simp(disch:=omega) only[↓pQ,pS,↓reduceIte,aj,ak,ap,aq,au,av,aw,ax,ay,qC_,qG_,eg]
def AW(iT e:dk):Bool:=decide (e.node=iT.node)&&(decide (e.ae=iT.ae)&&(gj e.left 0 3&& !(e.both&&decide (e.left=0))))
def rD(cU iT:List dk):Bool:=decide (iT.length<=cU.length)&&kC iT.length λi=>AW (gt iT i) (gt cU i)
def DM(cU iT:List dk):Bool:=decide ((iT.length:Int)=cU.length)&&kC cU.length λi=>AW (gt iT i) (gt cU i)
def l_(x:Node):Bool:=kf x.self&&(DM x.cU (q8 x.self.net.aE x.self.id x.self.net.n)&&Aa (kj x.cU) x.self.heard)
theorem adL{x:Self}(h:kf x=true):1<=x.net.n∧x.net.n<=6:=by
 simp only[kf,yw,bD,bg]at h
 exact h.1.1.1.1.1
theorem P4(ls:List bO)(id n:Int)(h:n<=6):(q8 ls id n).length<=18:=by
 have:=J6 (l:=List.range n.toNat) (g:=yx ls id) (c:=[]) (Inv:=λi (c:List dk)=>c.length<=3*i) (by simp) (λi c hi hc=>by have:=P3 ls id c (gt (List.range n.toNat) i);omega)
 simp only[List.length_range]at this
 unfold q8
 omega
theorem avv(id bh n:Int)(ls:List bO)(ts:List cg)(hd:List Int)(st:List ah)(es:List dk)(h1:ls.length<=1048576)(h2:ts.length<=1048576)(h3:hd.length<=1048576)(h4:st.length<=1048576)(h5:aR st)(h6:es.length<=1048576):
  Dc [ii id,ii bh,ii n,.l (ls.map dB),.l (ts.map ed),.l (hd.map aB),.l (st.map ai),.l (es.map b8)]=some [bb (l_ ⟨⟨id,bh,⟨n,ls,ts⟩,hd,st⟩,es⟩)]:=by
 rw[atK];simp(disch:=omega) only[↓pQ,pS,↓reduceIte,aj,ak,ap,aq,au,av,aw,ax,ay,qD_,Pc,Iy _ _ _ _ _ _ _ h1 h2 h3 h4 h5]
 cases hs:kf ⟨id,bh,⟨n,ls,ts⟩,hd,st⟩with
 |false=>simp[l_,hs]
 |true=>
  have hn:1<=n∧n<=6:=adL hs
  have hw:=P4 ls id n hn.2
  have hb:=j3_ es
  simp only[not_true_eq_false,if_false]
  simp(disch:=omega) only[↓pQ,pS,↓reduceIte,aj,ak,ap,aq,au,av,aw,ax,ay,qD_,avu n ls _ id hn.2 h1]
  by_cases hl:((q8 ls id n).length:Int)=es.length
  ·simp only[hl,not_true_eq_false,if_false]
   refine(uf es.length (λi=>[bb false,ii i]) (λi=>AW (gt (q8 ls id n) i) (gt es i)) (fE:=some [bb false]) (gW:=some [bb (Aa (kj es) hd)]) rfl (dG h6) ?_ ?_).trans (jL _ _ _ |>.trans ?_)
   ·intro i hi s
    have eg:=hl▸hi
    simp(disch:=omega) only[↓pQ,pS,↓reduceIte,aj,ak,ap,aq,au,av,aw,ax,ay,qD_,hi,vA]
    unfold AW
    grind
   ·intro s
    simp(disch:=omega) only[↓pQ,pS,↓reduceIte,aj,ak,ap,aq,au,av,aw,ax,ay,qD_,adI _ h6,avs]
   ·unfold l_ DM
    simp[hs,hl]
  ·simp only[hl,not_false_eq_true,if_true]
   simp[l_,DM,hl]
theorem IA{ls:List bO}{id:Int}{v:Nat}{es c:List dk}{a:Nat}(h:rD es (oq ls id v c a)=true):rD es c=true:=by
 unfold oq at h
 split at h
 ·simp only[rD,bD,decide_eq_true_eq,List.length_append,List.length_singleton,bY]at h⊢
  refine⟨by omega,λi hi=>?_⟩
  have:=h.2 i (by omega)
  rwa[eC (by simp;omega),List.getElem_append_left hi,<-eC hi]at this
 ·exact h
theorem avw{ls:List bO}{id:Int}{v:Nat}{es c:List dk}(h:rD es (yx ls id c v)=true):rD es c=true:=
 IA (IA (IA (show rD es (oq ls id v (oq ls id v (oq ls id v c 0) 1) 2)=true from h)))
theorem avx{es c:List dk}{w:dk}(hc:rD es c=true):rD es (c++[w])=(decide (c.length<es.length)&&AW w (gt es c.length)):=by
 simp only[rD,bD,decide_eq_true_eq,bY]at hc
 rw[Bool.eq_iff_iff]
 simp only[rD,bD,decide_eq_true_eq,List.length_append,List.length_singleton,bY]
 constructor
 ·rintro⟨h1,h2⟩
  refine⟨by omega,?_⟩
  have:=h2 c.length (by omega)
  rwa[eC (by simp),List.getElem_append_right (Nat.le_refl _),List.getElem_singleton]at this
 ·rintro⟨h1,h2⟩
  refine⟨by omega,λi hi=>?_⟩
  rcases Nat.lt_or_ge i c.length with h|h
  ·rw[eC (by simp;omega),List.getElem_append_left h,<-eC h]
   exact hc.2 i h
  ·have:i=c.length:=by omega
   subst this
   rwa[eC (by simp),List.getElem_append_right (Nat.le_refl _),List.getElem_singleton]
theorem avy(id bh n:Int)(ls:List bO)(ts:List cg)(hd:List Int)(st:List ah)(es:List dk)(h1:ls.length<=1048576)(h2:ts.length<=1048576)(h3:hd.length<=1048576)(h4:st.length<=1048576)(h5:aR st)(h6:es.length<=1048576):
  CT [ii id,ii bh,ii n,.l (ls.map dB),.l (ts.map ed),.l (hd.map aB),.l (st.map ai),.l (es.map b8)]=some [bb (l_ ⟨⟨id,bh,⟨n,ls,ts⟩,hd,st⟩,es⟩)]:=by
 rw[arX];simp(disch:=omega) only[↓pQ,pS,↓reduceIte,aj,ak,ap,aq,au,av,aw,ax,ay,R',Sa,Oo,Iz _ _ _ _ _ _ _ h1 h2 h3 h4 h5]
 cases hs:kf ⟨id,bh,⟨n,ls,ts⟩,hd,st⟩with
 |false=>simp[l_,hs]
 |true=>
  have hn:1<=n∧n<=6:=adL hs
  have hw:=P4 ls id n hn.2
  have hb:=j3_ es
  have hz:ei (nA n) mM ls=true:=by simp only[kf,yw,bD]at hs;exact hs.1.1.2
  simp only[not_true_eq_false,if_false]
  have Kh:rD es []=true:=by simp[rD,kC]
  refine(M1 n.toNat (λi (c:List dk)=>[bb false,ii c.length,ii (i+1)]) (λi c=>rD es (yx ls id c i)) (yx ls id) (λc=>if(c.length:Int)=es.length then some [bb (Aa hd (kj es))]else some [bb false]) (fE:=some [bb false]) [] (λi c=>rD es c=true∧c.length<=3*i) rfl (dG (by omega)) ⟨Kh,by simp⟩ ?_ ?_).trans ?_
  ·intro i c hi hc
   refine⟨λh=>⟨h,by have:=P3 ls id c i;omega⟩,λs=>?_⟩
   have eg:(i:Int)+1<=n:=by omega
   simp(disch:=omega) only[↓pQ,pS,↓reduceIte,aj,ak,ap,aq,au,av,aw,ax,ay,R',Sa,eg]
   refine(M1 3 (λa (c:List dk)=>[bb false,ii c.length,ii a]) (λa c=>rD es (oq ls id i c a)) (oq ls id i) (λc=>s [bb false,ii c.length,ii ((i+1:Nat)+1)]) (fE:=some [bb false]) c (λa c=>rD es c=true∧c.length<=3*i+a) rfl (by unfold rounds;omega) ⟨hc.1,by omega⟩ ?_ ?_).trans ?_
   ·intro a c ha hc
    refine⟨λh=>⟨h,by have:=kp_ ls id i c a;omega⟩,λs=>?_⟩
    have xm:(a:Int)<=2:=by omega
    have Rz:=PW hz id (i+1) a
    simp(disch:=omega) only[↓pQ,pS,↓reduceIte,aj,ak,ap,aq,au,av,aw,ax,ay,R',Sa,xm,DK,wg]
    unfold oq
    by_cases hf:0<=eV (iE id (i+1) a) ls
    ·have dH:¬(om ls id (i+1) a=0):=by omega
     have hlen:=avx (w:=⟨(i:Int)+1,a,0,false⟩) hc.1
     simp only[hf,if_true,hlen,dH,if_false,List.length_append,List.length_singleton,CI,CJ]
     have TO:((c.length:Int)>=es.length)=¬(c.length<es.length):=by simp only[eq_iff_iff];omega
     unfold AW
     grind
    ·have dH:om ls id (i+1) a=0:=by omega
     simp only[hf,if_false,hc.1,if_true,dH]
   ·intro c s' hc
    simp(disch:=omega) only[↓pQ,pS,↓reduceIte,aj,ak,ap,aq,au,av,aw,ax,ay,R',Sa,]
   ·rw[W_ (rD es) (λc i=>IA) (λi c _ _=>rfl) hc.1]
    have e:(List.range 3).foldl (oq ls id i) c=yx ls id c i:=rfl
    rw[e]
    cases hp:rD es (yx ls id c i)with
    |true=>simp only[if_true,CI,CJ]
    |false=>simp
  ·intro c s hc
   have eg:¬((n.toNat:Int)+1<=n):=by omega
   simp(disch:=omega) only[↓pQ,pS,↓reduceIte,aj,ak,ap,aq,au,av,aw,ax,ay,R',Sa,eg,adJ _ h6,avt]
  ·rw[W_ (rD es) (λc i=>avw) (λi c _ _=>rfl) Kh]
   have nw:Aa hd (kj es)=Aa (kj es) hd:=by rw[Bool.eq_iff_iff,ju,ju];exact eq_comm
   have hk:DM es (q8 ls id n)=(rD es (q8 ls id n)&&decide (((q8 ls id n).length:Int)=es.length)):=by
    unfold DM rD
    by_cases hl:((q8 ls id n).length:Int)=es.length
    ·rw[show es.length=(q8 ls id n).length by omega];simp
    ·simp[hl]
   have e:(List.range n.toNat).foldl (yx ls id) []=q8 ls id n:=rfl
   rw[e,nw]
   unfold l_
   simp only[hs,hk,Bool.true_and]
   by_cases hp:rD es (q8 ls id n)=true
   ·by_cases hl:((q8 ls id n).length:Int)=es.length<;>simp[hp,hl]
   ·simp[hp]
structure adM (ns:List Node):Prop where
 len:∀n∈ns,n.self.store.length<=1048576
 aV:∀n∈ns,aR n.self.store
 heard:∀n∈ns,n.self.heard.length<=1048576
theorem Ki(a k o y s:Int)(l:List cB)(c:Int)(f:Bool)(h:l.length<=1048576):zW [ii a,ii k,ii o,ii y,ii s,.l (l.map fe),ii c,bb f]=some [ii a,ii k,ii o,ii y,ii s,.l (l.map fe),ii c,bb f]:=by
 rw[as_];simp(disch:=omega) only[↓pQ,pS,↓reduceIte,aj,ak,ap,aq,au,av,aw,ax,ay,OT]
theorem AX(a k o y s:Int)(l:List cB)(c:Int)(f:Bool)(h:l.length<=1048576):tw [ii a,ii k,ii o,ii y,ii s,.l (l.map fe),ii c,bb f]=some [ii a,ii k,ii o,ii y,ii s,.l (l.map fe),ii c,bb f]:=by
 rw[arn];simp(disch:=omega) only[↓pQ,pS,↓reduceIte,aj,ak,ap,aq,au,av,aw,ax,ay,N4]
def ot(ar:Int)(r:ah):Bool:=r.ae==ar||r.ae==9
def scope(s:List ah)(ar:Int):List ah:=s.filter (ot ar)
theorem DN(s:List ah)(ar:Int)(h:s.length<=1048576)(hn:aR s):HJ [.l (s.map ai),ii ar]=some [.l ((scope s ar).map ai)]:=by
 rw[auB];simp(disch:=omega) only[↓pQ,pS,↓reduceIte,aj,ak,ap,aq,au,av,aw,ax,ay,Ir,PF]
 refine(iP s (λi c=>[.l (c.map ai),ii i]) (λc a=>if ot ar a=true then c++[a]else c) (λc=>some [T.l (c.map ai)]) [] (λi c=>c.length<=i) rfl (dG h) (by simp) ?_ ?_).trans (by rw[Hb,List.nil_append,<-scope])
 ·intro i c hi hc
  refine⟨by split<;>(try simp)<;>omega,λk=>?_⟩
  have:=hn.gt (n:=i) (by omega) hi
  simp(disch:=omega) only[↓pQ,pS,↓reduceIte,aj,ak,ap,aq,au,av,aw,ax,ay,Ir,hi,Ki]
  unfold ot
  grind
 ·intro c k hc
  simp(disch:=omega) only[↓pQ,pS,↓reduceIte,aj,ak,ap,aq,au,av,aw,ax,ay,Ir,]
theorem P5(s:List ah)(ar:Int)(h:s.length<=1048576)(hn:aR s):C4 [.l (s.map ai),ii ar]=some [.l ((scope s ar).map ai)]:=by
 rw[asZ];simp(disch:=omega) only[↓pQ,pS,↓reduceIte,aj,ak,ap,aq,au,av,aw,ax,ay,Ih,OP]
 refine(iP s (λi c=>[.l (c.map ai),ii i]) (λc a=>if ot ar a=true then c++[a]else c) (λc=>some [T.l (c.map ai)]) [] (λi c=>c.length<=i) rfl (dG h) (by simp) ?_ ?_).trans (by rw[Hb,List.nil_append,<-scope])
 ·intro i c hi hc
  refine⟨by split<;>(try simp)<;>omega,λk=>?_⟩
  have:=hn.gt (n:=i) (by omega) hi
  simp(disch:=omega) only[↓pQ,pS,↓reduceIte,aj,ak,ap,aq,au,av,aw,ax,ay,Ih,hi,AX]
  unfold ot
  grind
 ·intro c k hc
  simp(disch:=omega) only[↓pQ,pS,↓reduceIte,aj,ak,ap,aq,au,av,aw,ax,ay,Ih,]
theorem adN(s:List ah)(ar:Int):(scope s ar).length<=s.length:=List.length_filter_le _ _
theorem IB(s:List ah)(a k o y:Int)(t4 t5 t6 t7:T)(h:s.length<=1048576):sw [.l (s.map ai),ii a,ii k,ii o,ii y,t4,t5,t6,t7]=some [ii (eV (λx=>dO x ⟨a,k,o,y,0,[],0,false⟩) s)]:=by
 rw[at3];simp(disch:=omega) only[↓pQ,pS,↓reduceIte,aj,ak,ap,aq,au,av,aw,ax,ay,Il,Pr]
 refine(EQ s (λi=>[ii 0,ii i]) (λx=>dO x ⟨a,k,o,y,0,[],0,false⟩) (λi=>some [ii i]) (kE:=some [ii (-1)]) rfl (dG h) ?_ ?_).trans (PU _ _)
 ·intro i hi q
  simp(disch:=omega) only[↓pQ,pS,↓reduceIte,aj,ak,ap,aq,au,av,aw,ax,ay,Il,hi,PX]
  rfl
 ·intro q
  simp(disch:=omega) only[↓pQ,pS,↓reduceIte,aj,ak,ap,aq,au,av,aw,ax,ay,Il,]
theorem DO(s:List ah)(a k o y:Int)(t4 t5 t6 t7:T)(h:s.length<=1048576):ye [.l (s.map ai),ii a,ii k,ii o,ii y,t4,t5,t6,t7]=some [ii (eV (λx=>dO x ⟨a,k,o,y,0,[],0,false⟩) s)]:=by
 rw[asg];simp(disch:=omega) only[↓pQ,pS,↓reduceIte,aj,ak,ap,aq,au,av,aw,ax,ay,H9,Oz]
 refine(EQ s (λi=>[ii 0,ii i]) (λx=>dO x ⟨a,k,o,y,0,[],0,false⟩) (λi=>some [ii i]) (kE:=some [ii (-1)]) rfl (dG h) ?_ ?_).trans (PU _ _)
 ·intro i hi q
  simp(disch:=omega) only[↓pQ,pS,↓reduceIte,aj,ak,ap,aq,au,av,aw,ax,ay,H9,hi,adD]
  rfl
 ·intro q
  simp(disch:=omega) only[↓pQ,pS,↓reduceIte,aj,ak,ap,aq,au,av,aw,ax,ay,H9,]
def bn(s:List ah)(r:ah):Int:=eV (λx=>dO x r) s
theorem P6(s:List ah)(r:ah):eV (λx=>dO x ⟨r.ae,r.kind,r.owner,r.key,0,[],0,false⟩) s=bn s r:=rfl
theorem IC(s:List ah)(h:s.length<=1048576)(hn:aR s):C6 [.l (s.map ai)]=some [.l (s.map ai)]:=by
 rw[atb];simp(disch:=omega) only[↓pQ,pS,↓reduceIte,aj,ak,ap,aq,au,av,aw,ax,ay,uq_,OU]
 refine(iP s (λi c=>[.l (c.map ai),ii i]) (λc a=>c++[id a]) (λc=>some [T.l (c.map ai)]) [] (λi c=>c.length<=i) rfl (dG h) (by simp) ?_ ?_).trans (show some [T.l ((s.foldl (λc a=>c++[id a]) []).map ai)]=some [T.l (s.map ai)] by rw[foldl_map];simp)
 ·intro i c hi hc
  refine⟨by simp;omega,λk=>?_⟩
  have:=hn.gt (n:=i) (by omega) hi
  simp(disch:=omega) only[↓pQ,pS,↓reduceIte,aj,ak,ap,aq,au,av,aw,ax,ay,uq_,hi,Ki]
  rfl
 ·intro c k hc
  simp(disch:=omega) only[↓pQ,pS,↓reduceIte,aj,ak,ap,aq,au,av,aw,ax,ay,uq_,]
theorem P7(s:List ah)(h:s.length<=1048576)(hn:aR s):AE [.l (s.map ai)]=some [.l (s.map ai)]:=by
 rw[arp];simp(disch:=omega) only[↓pQ,pS,↓reduceIte,aj,ak,ap,aq,au,av,aw,ax,ay,uy_,N5]
 refine(iP s (λi c=>[.l (c.map ai),ii i]) (λc a=>c++[id a]) (λc=>some [T.l (c.map ai)]) [] (λi c=>c.length<=i) rfl (dG h) (by simp) ?_ ?_).trans (show some [T.l ((s.foldl (λc a=>c++[id a]) []).map ai)]=some [T.l (s.map ai)] by rw[foldl_map];simp)
 ·intro i c hi hc
  refine⟨by simp;omega,λk=>?_⟩
  have:=hn.gt (n:=i) (by omega) hi
  simp(disch:=omega) only[↓pQ,pS,↓reduceIte,aj,ak,ap,aq,au,av,aw,ax,ay,uy_,hi,AX]
  rfl
 ·intro c k hc
  simp(disch:=omega) only[↓pQ,pS,↓reduceIte,aj,ak,ap,aq,au,av,aw,ax,ay,uy_,]
def cM(s:List ah)(r:ah):List ah:=s.filter (λx=>fo x r)++([r]++s.filter (λx=>fo r x))
abbrev gZ(s:List ah):Prop:=s.Pairwise λa b=>fo a b=true
theorem ID{a b c:ah}(h:fo a b=true)(h':fo b c=true):fo a c=true:=by rw[p7]at *;omega
theorem IE(a:ah):fo a a=false:=by
 cases h:fo a a with
 |false=>rfl
 |true=>rw[p7]at h;omega
theorem DP{a b:ah}(h:fo a b=true):fo b a=false:=by
 cases h':fo b a with
 |false=>rfl
 |true=>rw[p7]at *;omega
theorem uS_{a b:ah}(h:fo a b=true):dO a b=false:=by
 cases h':dO a b with
 |false=>rfl
 |true=>rw[p7]at h;rw[sameKey_iff]at h';omega
theorem adP{a b:ah}(h:fo a b=false)(h':dO a b=false):fo b a=true:=by
 have h1:¬(fo a b=true):=by rw[h];decide
 have h2:¬(dO a b=true):=by rw[h'];decide
 rw[p7]at h1⊢
 rw[sameKey_iff]at h2
 omega
theorem adQ{a b r:ah}(h:dO a b=true):fo a r=fo b r∧fo r a=fo r b:=by
 rw[sameKey_iff]at h
 constructor
 ·rw[Bool.eq_iff_iff,p7,p7];omega
 ·rw[Bool.eq_iff_iff,p7,p7];omega
theorem avz{s:List ah}(h:ei eW fo s=true):gZ s:=by
 have h:=bY.1 h
 rw[gZ,List.pairwise_iff_getElem]
 have step:∀i,(hi:i+1<s.length)->fo s[i] s[i+1]=true:=by
  intro i hi
  have:=h (i+1) hi
  simp only[bD,Bool.or_eq_true,Bool.not_eq_true',decide_eq_false_iff_not]at this
  have h2:=this.2.resolve_left (by omega)
  rwa[show(((i+1:Nat):Int)-1)=(i:Int) by omega,eC (by omega),eC hi]at h2
 intro i j hi hj rV
 obtain⟨d,rfl⟩:∃d,j=i+1+d:=⟨j-i-1,by omega⟩
 clear rV
 induction d with
 |zero=>exact step i (by omega)
 |succ d ih=>exact ID (ih (by omega)) (step (i+1+d) (by omega))
theorem tH{s:List ah}(h:df s=true):gZ s:=by
 simp only[df,bD]at h;exact avz h.2
theorem Kj{s:List ah}(h:gZ s)(r:ah):gZ (cM s r):=by
 unfold cM gZ
 rw[List.pairwise_append]
 refine⟨h.filter _,?_,?_⟩
 ·rw[List.pairwise_append]
  refine⟨by simp,h.filter _,?_⟩
  intro a ha b hb
  rw[List.mem_singleton]at ha
  subst ha
  exact(List.mem_filter.1 hb).2
 ·intro a ha b hb
  have ha:=(List.mem_filter.1 ha).2
  rcases List.mem_append.1 hb with hb|hb
  ·rw[List.mem_singleton]at hb
   subst hb;exact ha
  ·exact ID ha (List.mem_filter.1 hb).2
theorem IF(s:List ah)(r:ah):(cM s r).length<=s.length+1:=by
 unfold cM
 have:(s.filter (λx=>fo x r)).length+(s.filter (λx=>fo r x)).length<=s.length:=by
  induction s with
  |nil=>simp
  |cons x s ih=>
   simp only[List.filter_cons]
   cases h:fo x r with
   |true=>simp[DP h];omega
   |false=>cases h':fo r x<;>simp<;>omega
 simp;omega
theorem AY{s:List ah}{r x:ah}(h:x∈cM s r):x=r∨x∈s:=by
 unfold cM at h
 rcases List.mem_append.1 h with h|h
 ·exact .inr (List.mem_filter.1 h).1
 ·rcases List.mem_append.1 h with h|h
  ·exact .inl (List.mem_singleton.1 h)
  ·exact .inr (List.mem_filter.1 h).1
theorem P8{s:List ah}{r:ah}(h:aR s)(hr:r.aV.length<=1048576):aR (cM s r):=λx hx=>by
 rcases AY hx with rfl|hx
 ·exact hr
 ·exact h x hx
def jv(s:List ah)(r:ah):Nat:=(s.filter (λx=>fo x r)).length
theorem avA(s:List ah)(r:ah):jv s r<=s.length:=List.length_filter_le _ _
theorem adR{s:List ah}(h:gZ s)(r:ah):s.take (jv s r)=s.filter (λx=>fo x r)∧(∀i,(hi:i<s.length)->(fo s[i] r=true↔i<jv s r)):=by
 induction s with
 |nil=>simp[jv]
 |cons x s ih=>
  have hs:=List.pairwise_cons.1 h
  have ih:=ih hs.2
  cases hx:fo x r with
  |true=>
   have e:jv (x::s) r=jv s r+1:=by simp[jv,List.filter_cons,hx]
   rw[e]
   refine⟨by rw[List.take_succ_cons,ih.1,List.filter_cons,hx];rfl,λi hi=>?_⟩
   cases i with
   |zero=>simp[hx]
   |succ i=>
    rw[List.getElem_cons_succ]
    have:=ih.2 i (by simpa using hi)
    rw[this];omega
  |false=>
   have none:∀y∈s,fo y r=false:=by
    intro y hy
    cases hyr:fo y r with
    |false=>rfl
    |true=>rw[ID (hs.1 y hy) hyr]at hx;cases hx
   have e:(x::s).filter (λx=>fo x r)=[]:=by
    rw[List.filter_eq_nil_iff]
    intro y hy
    rcases List.mem_cons.1 hy with rfl|hy
    ·rw[hx];decide
    ·rw[none y hy];decide
   have e2:jv (x::s) r=0:=by unfold jv;rw[e];rfl
   rw[e2,e]
   refine⟨rfl,λi hi=>⟨λh3=>?_,λh3=>absurd h3 (by omega)⟩⟩
   cases i with
   |zero=>rw[List.getElem_cons_zero,hx]at h3;cases h3
   |succ i=>rw[List.getElem_cons_succ,none _ (List.getElem_mem _)]at h3;cases h3
theorem avB{s:List ah}(h:gZ s)(r:ah):s.drop (jv s r+(if jv s r<s.length∧dO (gt s (jv s r:Nat)) r=true then 1 else 0))=s.filter (λx=>fo r x):=by
 have kl:=adR h r
 have h1:s.filter (λx=>fo r x)=(s.drop (jv s r)).filter (λx=>fo r x):=by
  have e0:s.filter (λx=>fo r x)=(s.take (jv s r)++s.drop (jv s r)).filter (λx=>fo r x):=by rw[List.take_append_drop]
  rw[e0,List.filter_append,kl.1]
  have e:(List.filter (λx=>fo x r) s).filter (λx=>fo r x)=[]:=by
   rw[List.filter_eq_nil_iff]
   intro y hy
   rw[DP (List.mem_filter.1 hy).2];decide
  rw[e,List.nil_append]
 rw[h1]
 have hd:∀x∈s.drop (jv s r),fo x r=false:=by
  intro x hx
  obtain⟨i,hi,rfl⟩:=List.mem_iff_getElem.1 hx
  rw[List.getElem_drop]
  cases hc:fo (s[jv s r+i]'(by simp at hi;omega)) r with
  |false=>rfl
  |true=>have:=(kl.2 _ (by simp at hi;omega)).1 hc;omega
 have hp:gZ (s.drop (jv s r)):=h.drop
 by_cases bf:jv s r<s.length
 ·have hg:=eC bf
  rw[hg]
  rw[List.drop_eq_getElem_cons bf]at hd hp⊢
  have Ax:=List.pairwise_cons.1 hp
  by_cases hk:dO s[jv s r] r=true
  ·rw[if_pos ⟨bf,hk⟩,List.filter_cons,(adQ hk).2▸IE r|>λ(e:fo r s[jv s r]=false)=>e,if_neg (by decide)]
   refine(List.filter_eq_self.2 λx hx=>?_).symm
   rw[<-(adQ hk).1]
   exact Ax.1 x hx
  ·rw[if_neg (by simp[hk]),Nat.add_zero,List.drop_eq_getElem_cons bf]
   refine(List.filter_eq_self.2 λx hx=>?_).symm
   have h0:=adP (hd _ (.head _)) (by simpa using hk)
   rcases List.mem_cons.1 hx with rfl|hx
   ·exact h0
   ·exact ID h0 (Ax.1 x hx)
 ·rw[List.drop_eq_nil_iff.2 (by omega),List.drop_eq_nil_iff.2 (by omega)]
  rfl
theorem aR.take{s:List ah}(h:aR s)(n:Nat):aR (s.take n):=λr hr=>h r (List.mem_of_mem_take hr)
theorem aR.drop{s:List ah}(h:aR s)(n:Nat):aR (s.drop n):=λr hr=>h r (List.mem_of_mem_drop hr)
theorem P9{β σ:Type}{F:(σ->Option β)->σ->Option β}{R:Nat}{x:σ}(st:Nat->σ)(n:Nat){out:Option β}(hx:x=st 0)(hR:n<R)(step:∀i:Nat,(i:Int)<(n:Int)->∀s,F s (st i)=s (st (i+1)))(fin:∀s,F s (st n)=out):iter F R x=out:=by
 have:=uf (F:=F) (R:=R) (x:=x) n st (λ_=>true) (gW:=out) (fE:=out) hx hR (λi hi s=>by simpa using step i hi s) fin
 rw[this];simp
theorem DQ(s:List ah)(a k o y q:Int)(l:List cB)(c:Int)(f:Bool)(h:s.length<=1048570)(hn:aR s)(hs:gZ s)(hl:l.length<=1048576):
  tB [.l (s.map ai),ii a,ii k,ii o,ii y,ii q,.l (l.map fe),ii c,bb f]=some [.l ((cM s ⟨a,k,o,y,q,l,c,f⟩).map ai)]:=by
 obtain⟨r,hr⟩:∃r:ah,r=⟨a,k,o,y,q,l,c,f⟩:=⟨_,rfl⟩
 have hle:=avA s r
 have kl:=adR hs r
 have Az:=avB hs r
 rw[atU];simp(disch:=omega) only[↓pQ,pS,↓reduceIte,aj,ak,ap,aq,au,av,aw,ax,ay,Pm,Pn]
 refine P9 (λi=>[ii i]) (jv s r) rfl (dG (by omega)) ?_ ?_
 ·intro i hi w
  have eg:(i:Int)<s.length:=by omega
  have hb:fo (gt s i) r=true:=by rw[eC (by omega)];exact(kl.2 i (by omega)).2 (by omega)
  have jU:fo ⟨(gt s i).ae,(gt s i).kind,(gt s i).owner,(gt s i).key,0,[],0,false⟩ ⟨a,k,o,y,0,[],0,false⟩=true:=by rw[<-hb,hr];rfl
  simp(disch:=omega) only[↓pQ,pS,↓reduceIte,aj,ak,ap,aq,au,av,aw,ax,ay,Pm,eg,PY,jU]
 ·intro w
  have ht:((jv s r:Nat):Int).toNat=jv s r:=Int.toNat_natCast _
  have p_:(s.take (jv s r)).length<=1048570:=by simp;omega
  by_cases bf:jv s r<s.length
  ·have eg:((jv s r:Nat):Int)<s.length:=by omega
   have hb:fo (gt s (jv s r:Nat)) r=false:=by
    rw[eC bf]
    cases hc:fo s[jv s r] r with
    |false=>rfl
    |true=>have:=(kl.2 _ bf).1 hc;omega
   have jU:fo ⟨(gt s (jv s r:Nat)).ae,(gt s (jv s r:Nat)).kind,(gt s (jv s r:Nat)).owner,(gt s (jv s r:Nat)).key,0,[],0,false⟩ ⟨a,k,o,y,0,[],0,false⟩=false:=by rw[<-hb,hr];rfl
   have nI:dO ⟨(gt s (jv s r:Nat)).ae,(gt s (jv s r:Nat)).kind,(gt s (jv s r:Nat)).owner,(gt s (jv s r:Nat)).key,0,[],0,false⟩ ⟨a,k,o,y,0,[],0,false⟩=dO (gt s (jv s r:Nat)) r:=by rw[hr];rfl
   simp(disch:=omega) only[↓pQ,pS,↓reduceIte,aj,ak,ap,aq,au,av,aw,ax,ay,Pm,eg,PY,jU,ht,IC _ (show(s.take (jv s r)).length<=1048576 by omega) (hn.take _),Ki,PX,nI,dh]
   cases hk:dO (gt s (jv s r:Nat)) r with
   |true=>
    have Bp:(((jv s r:Nat):Int)+1).toNat=jv s r+1:=by omega
    have hd:=IC (s.drop (jv s r+1)) (by simp;omega) (hn.drop _)
    rw[if_pos ⟨bf,hk⟩]at Az
    simp only[if_true]
    simp(disch:=omega) only[↓pQ,pS,↓reduceIte,aj,ak,ap,aq,au,av,aw,ax,ay,Pm,Bp,hd]
    rw[WO (by simp;omega),eB,Az,kl.1,<-hr,List.append_assoc]
    rfl
   |false=>
    have hd:=IC (s.drop (jv s r)) (by simp;omega) (hn.drop _)
    rw[if_neg (by simp[hk]),Nat.add_zero]at Az
    simp only[dh,if_false]
    simp(disch:=omega) only[↓pQ,pS,↓reduceIte,aj,ak,ap,aq,au,av,aw,ax,ay,Pm,ht,hd]
    rw[WO (by simp;omega),eB,Az,kl.1,<-hr,List.append_assoc]
    rfl
  ·have eg:¬(((jv s r:Nat):Int)<s.length):=by omega
   have hd:=IC (s.drop (jv s r)) (by simp;omega) (hn.drop _)
   rw[if_neg (by simp[bf]),Nat.add_zero]at Az
   simp(disch:=omega) only[↓pQ,pS,↓reduceIte,aj,ak,ap,aq,au,av,aw,ax,ay,Pm,eg,ht,IC _ (show(s.take (jv s r)).length<=1048576 by omega) (hn.take _),Ki,hd]
   rw[WO (by simp;omega),eB,Az,kl.1,<-hr,List.append_assoc]
   rfl
theorem Sl(s:List ah)(a k o y q:Int)(l:List cB)(c:Int)(f:Bool)(h:s.length<=1048570)(hn:aR s)(hl:l.length<=1048576):
  ug [.l (s.map ai),ii a,ii k,ii o,ii y,ii q,.l (l.map fe),ii c,bb f]=some [.l ((cM s ⟨a,k,o,y,q,l,c,f⟩).map ai)]:=by
 obtain⟨r,hr⟩:∃r:ah,r=⟨a,k,o,y,q,l,c,f⟩:=⟨_,rfl⟩
 have hb:∀x:ah,fo ⟨x.ae,x.kind,x.owner,x.key,0,[],0,false⟩ ⟨a,k,o,y,0,[],0,false⟩=fo x r:=λx=>by rw[hr];rfl
 have jU:∀x:ah,fo ⟨a,k,o,y,0,[],0,false⟩ ⟨x.ae,x.kind,x.owner,x.key,0,[],0,false⟩=fo r x:=λx=>by rw[hr];rfl
 rw[asa];simp(disch:=omega) only[↓pQ,pS,↓reduceIte,aj,ak,ap,aq,au,av,aw,ax,ay,Sb,Sc,Ow]
 refine(iP s (λi c=>[.l (c.map ai),ii i]) (λc x=>if fo x r=true then c++[x]else c) (λd=>some [T.l ((s.foldl (λc x=>if fo r x=true then c++[x]else c) (d++[r])).map ai)]) [] (λi c=>c.length<=i) rfl (dG (by omega)) (by simp) ?_ ?_).trans ?_
 ·intro i c hi hc
  refine⟨by split<;>(try simp)<;>omega,λw=>?_⟩
  have:=hn.gt (n:=i) (by omega) hi
  simp(disch:=omega) only[↓pQ,pS,↓reduceIte,aj,ak,ap,aq,au,av,aw,ax,ay,Sb,Sc,hi,PZ,hb]
  split<;>rfl
 ·intro d w hd
  simp(disch:=omega) only[↓pQ,pS,↓reduceIte,aj,ak,ap,aq,au,av,aw,ax,ay,Sb,Sc,]
  rw[<-hr]
  refine iP s (λi c=>[.l (c.map ai),ii i]) (λc x=>if fo r x=true then c++[x]else c) (λc=>some [T.l (c.map ai)]) (d++[r]) (λi c=>c.length<=d.length+1+i) rfl (dG (by omega)) (by simp) ?_ ?_
  ·intro i c hi hc
   refine⟨by split<;>(try simp)<;>omega,λw=>?_⟩
   have:=hn.gt (n:=i) (by omega) hi
   simp(disch:=omega) only[↓pQ,pS,↓reduceIte,aj,ak,ap,aq,au,av,aw,ax,ay,Sb,Sc,hi,PZ,jU]
   split<;>rfl
  ·intro c w hc
   simp(disch:=omega) only[↓pQ,pS,↓reduceIte,aj,ak,ap,aq,au,av,aw,ax,ay,Sb,Sc,]
 ·rw[Hb,Hb,<-hr]
  unfold cM
  simp
theorem avC{s:List ah}{r:ah}{n:Nat}(h:s.length+1<=n):(cM s r).length<=n:=Nat.le_trans (IF s r) h
def xn:List Int:=[1,2,3,4,5,6]
def fZ(l:List Int):Prop:=l.Pairwise (· < ·)∧∀x∈l,1<=x∧x<=6
theorem Kk:∀{a b:List Int},a.Pairwise (· < ·)->b.Pairwise (· < ·)->(∀x,x∈a↔x∈b)->a=b
 | [],[],_,_,_=>rfl
 | [],y::b,_,_,h=>absurd ((h y).2 (.head _)) (by simp)
 |x::a,[],_,_,h=>absurd ((h x).1 (.head _)) (by simp)
 |x::a,y::b,ha,hb,h=>by
  have xm:=List.pairwise_cons.1 ha
  have jU:=List.pairwise_cons.1 hb
  have Lw:x=y:=by
   rcases List.mem_cons.1 ((h x).1 (.head _))with e|e
   ·exact e
   ·rcases List.mem_cons.1 ((h y).2 (.head _))with e'|e'
    ·exact e'.symm
    ·have:=jU.1 x e;have:=xm.1 y e';omega
  subst Lw
  have:a=b:=Kk xm.2 jU.2 λz=>by
   constructor
   ·intro hz
    rcases List.mem_cons.1 ((h z).1 (.tail _ hz))with e|e
    ·subst e;have:=xm.1 z hz;omega
    ·exact e
   ·intro hz
    rcases List.mem_cons.1 ((h z).2 (.tail _ hz))with e|e
    ·subst e;have:=jU.1 z hz;omega
    ·exact e
  rw[this]
def Ab(a b:List Int):List Int:=xn.filter λx=>a.contains x||b.contains x
theorem tI:xn.Pairwise (· < ·):=by unfold xn;simp
theorem IG(a b:List Int):fZ (Ab a b):=by
 refine⟨tI.filter _,λx hx=>?_⟩
 have:=(List.mem_filter.1 hx).1
 simp[xn]at this
 omega
theorem jM{x:Int}:x∈xn↔1<=x∧x<=6:=by simp[xn];omega
theorem IH{a b:List Int}{x:Int}:x∈Ab a b↔(1<=x∧x<=6)∧(x∈a∨x∈b):=by
 unfold Ab
 rw[List.mem_filter,jM]
 simp
theorem adS{a:List Int}(h:fZ a):Ab [] a=a:=
 Kk (IG _ _).1 h.1 λx=>by
  rw[IH]
  exact⟨λh'=>h'.2.resolve_left (by simp),λh'=>⟨h.2 x h',.inr h'⟩⟩
theorem tJ{a:List Int}(h:fZ a):a.length<=6:=by
 have e:Ab [] a=a:=adS h
 rw[<-e]
 exact List.length_filter_le _ _
theorem adT:fZ []:=⟨.nil,by simp⟩
theorem Kl{n:Int}(h:1<=n)(h':n<=6):fZ [n]:=⟨by simp,by simp;omega⟩
theorem xo(l:List Int)(n:Int)(h:l.length<=1048576):Df [.l (l.map aB),ii n]=some [bb (l.contains n)]:=by
 rw[atW];simp(disch:=omega) only[↓pQ,pS,↓reduceIte,aj,ak,ap,aq,au,av,aw,ax,ay,kr_,Po]
 refine(EQ l (λi=>[bb false,ii i]) (λx=>x==n) (λ_=>some [bb true]) (kE:=some [bb false]) rfl (dG h) ?_ ?_).trans ?_
 ·intro i hi q
  simp(disch:=omega) only[↓pQ,pS,↓reduceIte,aj,ak,ap,aq,au,av,aw,ax,ay,kr_,hi]
 ·intro q
  simp(disch:=omega) only[↓pQ,pS,↓reduceIte,aj,ak,ap,aq,au,av,aw,ax,ay,kr_,]
 ·rw[jL]
  congr 3
  by_cases hf:eV (λx=>x==n) l<0
  ·rw[if_pos hf]
   have:=(EP _ _).1 hf
   cases hc:l.contains n with
   |false=>rfl
   |true=>
    have hm:=List.contains_iff_mem.1 hc
    have:=this n hm
    simp at this
  ·rw[if_neg hf]
   have:=ue _ _ (by omega:0<=eV (λx=>x==n) l)
   have hm:=lg (l:=l) (n:=eV (λx=>x==n) l) (by omega) (sm _ _)
   rw[beq_iff_eq]at this
   rw[this]at hm
   exact(List.contains_iff_mem.2 hm).symm
theorem P_(l:List Int)(n:Int)(h:l.length<=1048576):Ng [.l (l.map aB),ii n]=some [bb (l.contains n)]:=by
 rw[asp];simp(disch:=omega) only[↓pQ,pS,↓reduceIte,aj,ak,ap,aq,au,av,aw,ax,ay,H_,OD]
 refine(EQ l (λi=>[bb false,ii i]) (λx=>x==n) (λ_=>some [bb true]) (kE:=some [bb false]) rfl (dG h) ?_ ?_).trans ?_
 ·intro i hi q
  simp(disch:=omega) only[↓pQ,pS,↓reduceIte,aj,ak,ap,aq,au,av,aw,ax,ay,H_,hi]
 ·intro q
  simp(disch:=omega) only[↓pQ,pS,↓reduceIte,aj,ak,ap,aq,au,av,aw,ax,ay,H_,]
 ·rw[jL]
  congr 3
  by_cases hf:eV (λx=>x==n) l<0
  ·rw[if_pos hf]
   have:=(EP _ _).1 hf
   cases hc:l.contains n with
   |false=>rfl
   |true=>
    have hm:=List.contains_iff_mem.1 hc
    have:=this n hm
    simp at this
  ·rw[if_neg hf]
   have:=ue _ _ (by omega:0<=eV (λx=>x==n) l)
   have hm:=lg (l:=l) (n:=eV (λx=>x==n) l) (by omega) (sm _ _)
   rw[beq_iff_eq]at this
   rw[this]at hm
   exact(List.contains_iff_mem.2 hm).symm
theorem tK(l:List Int)(h:l.length<=1048576):xj [.l (l.map aB)]=some [.l (l.map aB)]:=by
 rw[as8];simp(disch:=omega) only[↓pQ,pS,↓reduceIte,aj,ak,ap,aq,au,av,aw,ax,ay,OS]
theorem Sm(a b:Int)(l:List Int)(h:l.length<=1048576):yf [ii a,ii b,.l (l.map aB)]=some [ii a,ii b,.l (l.map aB)]:=by
 rw[at9];simp(disch:=omega) only[↓pQ,pS,↓reduceIte,aj,ak,ap,aq,au,av,aw,ax,ay,Pw,tK]
theorem P'(a b:Int)(l:List Int)(h:l.length<=1048576):Ni [ii a,ii b,.l (l.map aB)]=some [ii a,ii b,.l (l.map aB)]:=by
 rw[asv];simp(disch:=omega) only[↓pQ,pS,↓reduceIte,aj,ak,ap,aq,au,av,aw,ax,ay,OH]
def eP(l:List Way)(to:Int):Int:=eV (λw=>w.to==to) l
theorem Qc(l:List Way)(to:Int)(h:l.length<=1048576)(hl:∀w∈l,w.aP.length<=1048576):Nw [.l (l.map bp),ii to]=if eP l to<0 then some [ii 0,ii 0,.l [],bb false]else some (bp (gt l (eP l to))++[bb true]):=by
 rw[auf];simp(disch:=omega) only[↓pQ,pS,↓reduceIte,aj,ak,ap,aq,au,av,aw,ax,ay,Im,Pz]
 refine EQ l (λi=>[bb false,ii i]) (λw=>w.to==to) (λi=>some (bp (gt l i)++[bb true])) (kE:=some [ii 0,ii 0,.l [],bb false]) rfl (dG h) ?_ ?_
 ·intro i hi q
  have:=hl _ (lg (n:=i) (by omega) hi)
  simp(disch:=omega) only[↓pQ,pS,↓reduceIte,aj,ak,ap,aq,au,av,aw,ax,ay,Im,hi,Sm]
  rfl
 ·intro q
  simp(disch:=omega) only[↓pQ,pS,↓reduceIte,aj,ak,ap,aq,au,av,aw,ax,ay,Im,]
theorem II(l:List Way)(to:Int)(h:l.length<=1048576)(hl:∀w∈l,w.aP.length<=1048576):AF [.l (l.map bp),ii to]=if eP l to<0 then some [ii 0,ii 0,.l [],bb false]else some (bp (gt l (eP l to))++[bb true]):=by
 rw[asx];simp(disch:=omega) only[↓pQ,pS,↓reduceIte,aj,ak,ap,aq,au,av,aw,ax,ay,Ia,OI]
 refine EQ l (λi=>[bb false,ii i]) (λw=>w.to==to) (λi=>some (bp (gt l i)++[bb true])) (kE:=some [ii 0,ii 0,.l [],bb false]) rfl (dG h) ?_ ?_
 ·intro i hi q
  have:=hl _ (lg (n:=i) (by omega) hi)
  simp(disch:=omega) only[↓pQ,pS,↓reduceIte,aj,ak,ap,aq,au,av,aw,ax,ay,Ia,hi,P']
  rfl
 ·intro q
  simp(disch:=omega) only[↓pQ,pS,↓reduceIte,aj,ak,ap,aq,au,av,aw,ax,ay,Ia,]
def iJ(c:List Int)(n:Int):List Int:=c.filter (λx=>decide (x<n))++([n]++c.filter (λx=>decide (n<x)))
def eX(c:List Int)(n:Int):Nat:=(c.filter (λx=>decide (x<n))).length
theorem IJ(c:List Int)(n:Int):eX c n<=c.length:=List.length_filter_le _ _
theorem Sn{c:List Int}(h:c.Pairwise (· < ·))(n:Int):c.take (eX c n)=c.filter (λx=>decide (x<n))∧c.drop (eX c n)=c.filter (λx=>decide (n<=x))∧∀i,(hi:i<c.length)->(c[i]<n↔i<eX c n):=by
 induction c with
 |nil=>simp[eX]
 |cons x c ih=>
  have hs:=List.pairwise_cons.1 h
  obtain⟨i1,i2,i3⟩:=ih hs.2
  by_cases hx:x<n
  ·have e:eX (x::c) n=eX c n+1:=by simp[eX,List.filter_cons,hx]
   have hx':¬n<=x:=by omega
   rw[e]
   refine⟨by rw[List.take_succ_cons,i1];simp[List.filter_cons,hx],by rw[List.drop_succ_cons,i2];simp[List.filter_cons,hx'],λi hi=>?_⟩
   cases i with
   |zero=>simp[hx]
   |succ i=>
    rw[List.getElem_cons_succ,i3 i (by simpa using hi)];omega
  ·have e1:(x::c).filter (λx=>decide (x<n))=[]:=by
    rw[List.filter_eq_nil_iff]
    intro y hy
    rcases List.mem_cons.1 hy with rfl|hy
    ·simp;omega
    ·have:=hs.1 y hy;simp;omega
   have e2:(x::c).filter (λx=>decide (n<=x))=x::c:=by
    rw[List.filter_eq_self]
    intro y hy
    rcases List.mem_cons.1 hy with rfl|hy
    ·simp;omega
    ·have:=hs.1 y hy;simp;omega
   have e:eX (x::c) n=0:=by unfold eX;rw[e1];rfl
   rw[e,e1,e2]
   refine⟨rfl,rfl,λi hi=>⟨λh3=>?_,λh3=>absurd h3 (by omega)⟩⟩
   cases i with
   |zero=>rw[List.getElem_cons_zero]at h3;omega
   |succ i=>
    rw[List.getElem_cons_succ]at h3
    have:=hs.1 _ (List.getElem_mem (by simpa using hi:i<c.length));omega
theorem kg{c:List Int}{n x:Int}:x∈iJ c n↔x=n∨x∈c:=by
 unfold iJ
 simp only[List.mem_append,List.mem_filter,List.mem_singleton,decide_eq_true_eq]
 constructor
 ·rintro(h|h|h)
  ·exact .inr h.1
  ·exact .inl h
  ·exact .inr h.1
 ·rintro(h|h)
  ·exact .inr (.inl h)
  ·rcases Int.lt_trichotomy x n with h'|h'|h'
   ·exact .inl ⟨h,h'⟩
   ·exact .inr (.inl h')
   ·exact .inr (.inr ⟨h,h'⟩)
theorem Qd{c:List Int}(h:c.Pairwise (· < ·))(n:Int):(iJ c n).Pairwise (· < ·):=by
 unfold iJ
 rw[List.pairwise_append,List.pairwise_append]
 refine⟨h.filter _,⟨by simp,h.filter _,?_⟩,?_⟩
 ·intro a ha b hb
  rw[List.mem_singleton]at ha
  have:=(List.mem_filter.1 hb).2
  simp at this;omega
 ·intro a ha b hb
  have ha:=(List.mem_filter.1 ha).2
  simp only[decide_eq_true_eq]at ha
  rcases List.mem_append.1 hb with hb|hb
  ·rw[List.mem_singleton]at hb;omega
  ·have hb:=(List.mem_filter.1 hb).2
   simp only[decide_eq_true_eq]at hb;omega
theorem avD{c:List Int}(h:fZ c){n:Int}(h1:1<=n)(h2:n<=6):fZ (iJ c n):=
 ⟨Qd h.1 n,λx hx=>by rcases kg.1 hx with rfl|hx;exact⟨h1,h2⟩;exact h.2 x hx⟩
theorem Qf{c:List Int}(h:c.Pairwise (· < ·)){n:Int}(hn:n∈c):iJ c n=c:=
 Kk (Qd h n) h λx=>by rw[kg];exact⟨λh=>h.elim (λe=>e▸hn) id,.inr⟩
theorem Ac{c:List Int}(h:c.Pairwise (· < ·)){n:Int}(hn:n∉c):iJ c n=c.take (eX c n)++([n]++c.drop (eX c n)):=by
 obtain⟨h1,h2,_⟩:=Sn h n
 rw[h1,h2]
 unfold iJ
 congr 2
 refine List.filter_congr λx hx=>?_
 have:x≠n:=λe=>hn (e▸hx)
 have:(n<x)=(n<=x):=by simp only[eq_iff_iff];omega
 simp[this]
theorem Qg{c:List Int}(h:c.Pairwise (· < ·)){n:Int}(hl:eX c n<c.length):(gt c (eX c n:Nat)=n↔n∈c):=by
 obtain⟨_,h2,h3⟩:=Sn h n
 rw[eC hl]
 constructor
 ·intro e;exact e▸List.getElem_mem hl
 ·intro hm
  obtain⟨j,hj,e⟩:=List.mem_iff_getElem.1 hm
  have h4:¬(j<eX c n):=λhc=>by have:=(h3 j hj).2 hc;omega
  have h5:¬(c[eX c n]<n):=λhc=>by have:=(h3 _ hl).1 hc;omega
  rcases Nat.lt_or_ge (eX c n) j with h6|h6
  ·have:=List.pairwise_iff_getElem.1 h _ _ hl hj h6
   omega
  ·have:j=eX c n:=by omega
   subst this;exact e
theorem Qh{c:List Int}(h:c.Pairwise (· < ·)){n:Int}(hl:¬eX c n<c.length):n∉c:=by
 obtain⟨_,_,h3⟩:=Sn h n
 intro hm
 obtain⟨j,hj,e⟩:=List.mem_iff_getElem.1 hm
 have h4:¬(j<eX c n):=λhc=>by have:=(h3 j hj).2 hc;omega
 omega
def mB(a b:Way):Way:=if b.cost>a.cost then a else if a.cost>b.cost then b else⟨a.to,a.cost,Ab a.aP b.aP⟩
theorem adU{l c:List Int}(hl:∀x∈l,1<=x∧x<=6)(hc:fZ c):fZ (l.foldl iJ c)∧∀x,x∈l.foldl iJ c↔x∈c∨x∈l:=by
 induction l generalizing c with
 |nil=>exact⟨hc,by simp⟩
 |cons n l ih=>
  have hn:=hl n (.head _)
  obtain⟨h1,h2⟩:=ih (λx hx=>hl x (.tail _ hx)) (avD hc hn.1 hn.2)
  refine⟨h1,λx=>?_⟩
  rw[List.foldl_cons,h2,kg,List.mem_cons]
  constructor
  ·rintro((h|h)|h)
   ·exact .inr (.inl h)
   ·exact .inl h
   ·exact .inr (.inr h)
  ·rintro(h|h|h)
   ·exact .inl (.inr h)
   ·exact .inl (.inl h)
   ·exact .inr h
def IK(a b:Way):Way:=if b.cost>a.cost then a else if a.cost>b.cost then b else⟨a.to,a.cost,b.aP.foldl iJ (a.aP.foldl iJ [])⟩
theorem adV(c:List Int)(n:Int):(iJ c n).length<=c.length+1:=by
 have:∀c:List Int,(c.filter (λx=>decide (x<n))).length+(c.filter (λx=>decide (n<x))).length<=c.length:=by
  intro c
  induction c with
  |nil=>simp
  |cons x c ih=>by_cases h1:x<n<;>by_cases h2:n<x<;>simp[h1,h2]<;>omega
 have:=this c
 unfold iJ
 simp only[List.length_append,List.length_singleton];omega
theorem avE(a b:Int)(l:List Int)(a' b':Int)(l':List Int)(hl:l.length<=50)(kX:l'.length<=50):zX [ii a,ii b,.l (l.map aB),ii a',ii b',.l (l'.map aB)]=some (bp (IK ⟨a,b,l⟩ ⟨a',b',l'⟩)):=by
 rw[aub];simp(disch:=omega) only[↓pQ,pS,↓reduceIte,aj,ak,ap,aq,au,av,aw,ax,ay,yp,yq,yr,yu,Px,Sm _ _ _ (show l.length<=1048576 by omega),Sm _ _ _ (show l'.length<=1048576 by omega)]
 unfold IK
 by_cases h1:b'>b
 ·simp only[h1,if_true];rfl
 by_cases h2:b>b'
 ·simp only[h1,h2,if_true,if_false];rfl
 simp only[h1,h2,if_false]
 have one:∀(c:List Int) (n:Int) (j:Nat) (s:List T->Option (List T)),c.length<=200->(j:Int)<100->∀{F:af->af},(∀k:Nat,∀w,(k:Int)<eX c n->F w [ii k]=w [ii (k+1)])->(∀w,F w [ii (eX c n)]=s [ii (j+1),.l ((iJ c n).map aB)])->iter F rounds [ii 0]=s [ii (j+1),.l ((iJ c n).map aB)]:=by
  intro c n j s hc hj F h1 h2
  have:=IJ c n
  exact P9 (λk=>[ii k]) (eX c n) rfl (dG (by omega)) (λi hi w=>h1 i w hi) h2
 refine(iP l (λi c=>[ii i,.l (c.map aB)]) iJ (λc=>some (bp ⟨a,b,l'.foldl iJ c⟩)) [] (λi c=>c.Pairwise (· < ·)∧c.length<=i) rfl (dG (by omega)) ⟨.nil,by simp⟩ ?_ ?_).trans ?_
 ·intro i c hi hc
  have pE:=hc.2
  refine⟨⟨Qd hc.1 _,by have:=adV c (gt l i);omega⟩,λs=>?_⟩
  have hle:=IJ c (gt l i)
  obtain⟨c1,c2,c3⟩:=Sn hc.1 (gt l i)
  simp(disch:=omega) only[↓pQ,pS,↓reduceIte,aj,ak,ap,aq,au,av,aw,ax,ay,yp,yq,yr,yu,hi]
  refine one c (gt l i) i s (by omega) (by omega) ?_ ?_
  ·intro k w hk
   have gx:(k:Int)<c.length:=by omega
   have c_:gt c (k:Int)<gt l i:=by rw[eC (by omega)];exact(c3 k (by omega)).2 (by omega)
   simp(disch:=omega) only[↓pQ,pS,↓reduceIte,aj,ak,ap,aq,au,av,aw,ax,ay,yp,yq,yr,yu,gx,c_]
  ·intro w
   by_cases bf:eX c (gt l i)<c.length
   ·have gx:((eX c (gt l i):Nat):Int)<c.length:=by omega
    have c_:¬(gt c ((eX c (gt l i):Nat):Int)<gt l i):=by rw[eC bf];intro wW;have:=(c3 _ bf).1 wW;omega
    have jz:=Qg hc.1 bf
    by_cases km:gt l i∈c
    ·rw[Qf hc.1 km]
     have rE:=jz.2 km
     simp(disch:=omega) only[↓pQ,pS,↓reduceIte,aj,ak,ap,aq,au,av,aw,ax,ay,yp,yq,yr,yu,gx,c_,rE]
    ·rw[Ac hc.1 km]
     have rE:¬(gt c ((eX c (gt l i):Nat):Int)=gt l i):=λe=>km (jz.1 e)
     simp(disch:=omega) only[↓pQ,pS,↓reduceIte,aj,ak,ap,aq,au,av,aw,ax,ay,yp,yq,yr,yu,gx,c_,rE,tK _ (show(c.take (eX c (gt l i))).length<=1048576 by simp;omega)]
     rw[G4 (by simp;omega),eB,CD (by simp;omega),eB,List.append_assoc]
   ·have gx:¬(((eX c (gt l i):Nat):Int)<c.length):=by omega
    rw[Ac hc.1 (Qh hc.1 bf)]
    simp(disch:=omega) only[↓pQ,pS,↓reduceIte,aj,ak,ap,aq,au,av,aw,ax,ay,yp,yq,yr,yu,gx,tK _ (show(c.take (eX c (gt l i))).length<=1048576 by simp;omega)]
    rw[G4 (by simp;omega),eB,CD (by simp;omega),eB,List.append_assoc]
 ·intro c w hc
  simp(disch:=omega) only[↓pQ,pS,↓reduceIte,aj,ak,ap,aq,au,av,aw,ax,ay,yp,yq,yr,yu,]
  refine iP l' (λi c=>[ii i,.l (c.map aB)]) iJ (λc=>some (bp ⟨a,b,c⟩)) c (λi c=>c.Pairwise (· < ·)∧c.length<=l.length+i) rfl (dG (by omega)) hc ?_ ?_
  ·intro i c hi hc
   have pE:=hc.2
   refine⟨⟨Qd hc.1 _,by have:=adV c (gt l' i);omega⟩,λs=>?_⟩
   have hle:=IJ c (gt l' i)
   obtain⟨c1,c2,c3⟩:=Sn hc.1 (gt l' i)
   simp(disch:=omega) only[↓pQ,pS,↓reduceIte,aj,ak,ap,aq,au,av,aw,ax,ay,yp,yq,yr,yu,hi]
   refine one c (gt l' i) i s (by omega) (by omega) ?_ ?_
   ·intro k w hk
    have gx:(k:Int)<c.length:=by omega
    have c_:gt c (k:Int)<gt l' i:=by rw[eC (by omega)];exact(c3 k (by omega)).2 (by omega)
    simp(disch:=omega) only[↓pQ,pS,↓reduceIte,aj,ak,ap,aq,au,av,aw,ax,ay,yp,yq,yr,yu,gx,c_]
   ·intro w
    by_cases bf:eX c (gt l' i)<c.length
    ·have gx:((eX c (gt l' i):Nat):Int)<c.length:=by omega
     have c_:¬(gt c ((eX c (gt l' i):Nat):Int)<gt l' i):=by rw[eC bf];intro wW;have:=(c3 _ bf).1 wW;omega
     have jz:=Qg hc.1 bf
     by_cases km:gt l' i∈c
     ·rw[Qf hc.1 km]
      have rE:=jz.2 km
      simp(disch:=omega) only[↓pQ,pS,↓reduceIte,aj,ak,ap,aq,au,av,aw,ax,ay,yp,yq,yr,yu,gx,c_,rE]
     ·rw[Ac hc.1 km]
      have rE:¬(gt c ((eX c (gt l' i):Nat):Int)=gt l' i):=λe=>km (jz.1 e)
      simp(disch:=omega) only[↓pQ,pS,↓reduceIte,aj,ak,ap,aq,au,av,aw,ax,ay,yp,yq,yr,yu,gx,c_,rE,tK _ (show(c.take (eX c (gt l' i))).length<=1048576 by simp;omega)]
      rw[G4 (by simp;omega),eB,CD (by simp;omega),eB,List.append_assoc]
    ·have gx:¬(((eX c (gt l' i):Nat):Int)<c.length):=by omega
     rw[Ac hc.1 (Qh hc.1 bf)]
     simp(disch:=omega) only[↓pQ,pS,↓reduceIte,aj,ak,ap,aq,au,av,aw,ax,ay,yp,yq,yr,yu,gx,tK _ (show(c.take (eX c (gt l' i))).length<=1048576 by simp;omega)]
     rw[G4 (by simp;omega),eB,CD (by simp;omega),eB,List.append_assoc]
  ·intro c w hc
   simp(disch:=omega) only[↓pQ,pS,↓reduceIte,aj,ak,ap,aq,au,av,aw,ax,ay,yp,yq,yr,yu,]
   rfl
 ·rfl
theorem avF{a b:Way}(h:fZ a.aP)(h':fZ b.aP):IK a b=mB a b:=by
 unfold IK mB
 obtain⟨q1,q2⟩:=adU h.2 adT
 obtain⟨q3,q4⟩:=adU h'.2 q1
 congr 3
 refine Kk q3.1 (IG _ _).1 λx=>?_
 rw[q4,q2,IH]
 constructor
 ·rintro((hx|hx)|hx)
  ·cases hx
  ·exact⟨h.2 x hx,.inl hx⟩
  ·exact⟨h'.2 x hx,.inr hx⟩
 ·rintro⟨_,hx|hx⟩
  ·exact .inl (.inr hx)
  ·exact .inr hx
theorem jp_(a b:Int)(l:List Int)(a' b':Int)(l':List Int)(h:fZ l)(h':fZ l'):zX [ii a,ii b,.l (l.map aB),ii a',ii b',.l (l'.map aB)]=some (bp (mB ⟨a,b,l⟩ ⟨a',b',l'⟩)):=by
 rw[<-avF h h']
 exact avE a b l a' b' l' (by have:=tJ h;omega) (by have:=tJ h';omega)
theorem adX{α:Type} [Inhabited α]{enc:α->List T}{l:List α}{i off:Nat}{vs:List T}{x:α}(h:i<l.length)(hx:(enc (gt l i)).take off++vs++(enc (gt l i)).drop (off+vs.length)=enc x):setRow (l.map enc) i off vs=(l.set i x).map enc:=by
 unfold setRow
 refine List.ext_getElem (by simp) λj h1 h2=>?_
 simp only[List.getElem_modify,List.getElem_map,List.getElem_set]
 by_cases hj:i=j
 ·subst hj
  rw[if_pos rfl,if_pos rfl,<-hx,eC h]
 ·rw[if_neg hj,if_neg hj]
theorem Km{α:Type} [Inhabited α]{enc:α->List T}{sc:Bool}{w off m:Nat}{l:List α}{n:Int}{vs:List T}{x:α}(h:0<=n)(h':n<l.length)(hw:∀y,(enc y).length=w)(ho:off+m<=w)(hv:vs.length=m)(hs:(!sc||vs.all eQ)=true)
  (hx:(enc (gt l n)).take off++vs++(enc (gt l n)).drop (off+vs.length)=enc x):Prim.ev (.put sc w off m) (.l (l.map enc)::ii n::vs)=some (.l ((l.set n.toNat x).map enc)):=by
 have hn:n.toNat<l.length:=by omega
 have e:n=((n.toNat:Nat):Int):=by omega
 have hg:=dR (enc:=enc) h h'
 rw[e]
 rw[GI hg (hw _) ho hv hs,Int.toNat_natCast,adX hn (by rw[<-e];exact hx)]
theorem DR{l:List Int}{n x:Int}(h:0<=n)(h':n<l.length):Prim.ev (.put true 1 0 1) [.l (l.map aB),ii n,ii x]=some (.l ((l.set n.toNat x).map aB)):=
 Km (enc:=aB) (x:=x) h h' (λ_=>rfl) (by decide) rfl rfl rfl
theorem avG{l:List Bool}{n:Int}{x:Bool}(h:0<=n)(h':n<l.length):Prim.ev (.put true 1 0 1) [.l (l.map jY),ii n,bb x]=some (.l ((l.set n.toNat x).map jY)):=
 Km (enc:=jY) (x:=x) h h' (λ_=>rfl) (by decide) rfl rfl rfl
theorem avH{l:List Way}{n x:Int}(h:0<=n)(h':n<l.length):Prim.ev (.put true 3 0 1) [.l (l.map bp),ii n,ii x]=some (.l ((l.set n.toNat ⟨x,(gt l n).cost,(gt l n).aP⟩).map bp)):=
 Km (enc:=bp) (x:=⟨x,(gt l n).cost,(gt l n).aP⟩) h h' (λ_=>rfl) (by decide) rfl rfl rfl
theorem Ad{l:List Way}{n a b:Int}{c:List Int}(h:0<=n)(h':n<l.length):Prim.ev (.put false 3 0 3) [.l (l.map bp),ii n,ii a,ii b,.l (c.map aB)]=some (.l ((l.set n.toNat ⟨a,b,c⟩).map bp)):=
 Km (enc:=bp) (x:=⟨a,b,c⟩) h h' (λ_=>rfl) (by decide) rfl rfl rfl
theorem avI{α:Type} [Inhabited α]{enc:α->List T}{ms:List Bool}{w off:Nat}{l:List α}{n:Int}{vs:List T}{x:α}(h:0<=n)(h':n<l.length)(hw:∀y,(enc y).length=w)(ho:off+vs.length<=w)(hs:r9 ms vs=true)
  (hx:(enc (gt l n)).take off++vs++(enc (gt l n)).drop (off+vs.length)=enc x):Prim.ev (.gH ms w off) (.l (l.map enc)::ii n::vs)=some (.l ((l.set n.toNat x).map enc)):=by
 have hn:n.toNat<l.length:=by omega
 have hr:vK (.l (l.map enc)) (ii n)=some (enc (gt l n)):=Cy h (dR (enc:=enc) h h')
 simp only[Prim.ev,hr,Option.bind_some,hw,if_true,if_pos ho,hs,T.rows,T.int]
 rw[adX hn (by rw[show((n.toNat:Nat):Int)=n by omega];exact hx)]
theorem IL{l:List Way}{n a b:Int}{c:List Int}(h:0<=n)(h':n<l.length):Prim.ev (.gH [true,true,false] 3 0) [.l (l.map bp),ii n,ii a,ii b,.l (c.map aB)]=some (.l ((l.set n.toNat ⟨a,b,c⟩).map bp)):=
 avI (enc:=bp) (x:=⟨a,b,c⟩) h h' (λ_=>rfl) (by simp) rfl rfl
def gF{α:Type}(enc:α->List T)(l:List α)(i:Nat):List (List T):=List.replicate i []++(l.drop i).map enc
theorem avJ{α:Type}{enc:α->List T}{l:List α}{i:Nat}(he:∀x,(enc x).isEmpty=false)(h:i<l.length):Prim.ev .yJ [.l (gF enc l i),ii (i:Int)]=some (.l (gF enc l (i+1))):=by
 have hd:l.drop i=l[i]::l.drop (i+1):=List.drop_eq_getElem_cons h
 have hl:(gF enc l i).length=l.length:=by simp[gF];omega
 have hr:(gF enc l i).drop i=enc l[i]::(l.drop (i+1)).map enc:=by rw[gF,hd,List.drop_left' (by simp)];rfl
 have ht:(gF enc l i).take i=List.replicate i []:=by simp[gF]
 have rK:(gF enc l i).drop (i+1)=(l.drop (i+1)).map enc:=by rw[<-List.drop_drop,hr];rfl
 have hf:sD (gF enc l i) i 1=true:=by simp[sD,hr,he]
 have hg:Ar (gF enc l i) i 1=gF enc l (i+1):=by rw[Ar,ht,rK,gF,<-List.replicate_append_replicate]
 simp only[Prim.ev,Int.toNat_natCast,hl,hf,hg,if_true]
 rw[if_pos (by omega),if_pos (by omega)]
theorem adY{α:Type}{enc:α->List T}{l:List α}{i m:Nat}{ys:List (List T)}(he:∀x,(enc x).isEmpty=false)(hm:ys.length=m)(h:i+m<=l.length):Prim.ev .lj [.l (gF enc l i),ii (i:Int),.l ys]=some (.l (gF enc l (i+m))):=by
 have hl:(gF enc l i).length=l.length:=by simp[gF];omega
 have hr:(gF enc l i).drop i=(l.drop i).map enc:=by simp[gF]
 have ht:(gF enc l i).take i=List.replicate i []:=by simp[gF]
 have rK:(gF enc l i).drop (i+m)=(l.drop (i+m)).map enc:=by rw[<-List.drop_drop,hr,<-List.map_drop,List.drop_drop]
 have hf:sD (gF enc l i) i m=true:=by
  simp only[sD,hr,List.all_eq_true]
  intro r hr
  obtain⟨x,_,rfl⟩:=List.mem_map.1 (List.mem_of_mem_take hr)
  simp[he]
 have hg:Ar (gF enc l i) i m=gF enc l (i+m):=by rw[Ar,ht,rK,gF,<-List.replicate_append_replicate]
 simp only[Prim.ev,Int.toNat_natCast,hl,hm,hf,hg,if_true]
 rw[if_pos (by omega),if_pos (by omega)]
theorem Qj{α:Type}{enc:α->List T}{l:List α}{k:Nat}(he:∀x,(enc x).isEmpty=false)(h:k<=l.length):Prim.ev .lj [.l (l.map enc),ii 0,.l ((l.take k).map enc)]=some (.l (gF enc l k)):=by
 have:=adY (enc:=enc) (l:=l) (i:=0) (m:=k) (ys:=(l.take k).map enc) he (by simp;omega) (by omega)
 rw[Nat.zero_add]at this
 exact this
theorem Qk{α:Type}{enc:α->List T}{l:List α}{k:Nat}(he:∀x,(enc x).isEmpty=false)(h:k<=l.length):Prim.ev .lj [.l (gF enc l k),ii (k:Int),.l ((l.drop k).map enc)]=some (.l (gF enc l l.length)):=by
 have:=adY (enc:=enc) (l:=l) (i:=k) (m:=l.length-k) (ys:=(l.drop k).map enc) he (by simp) (by omega)
 rw[show k+(l.length-k)=l.length by omega]at this
 exact this
def yz(l:List Int):List T:=[.l (l.map aB)]
theorem IM{l:List (List Int)}{n:Int}(h:0<=n)(h':n<l.length):Prim.ev (.cell 1 0) [.l (l.map yz),ii n]=some (.l ((gt l n).map aB)):=iO h (dR h h') rfl rfl
theorem Ko{l:List (List Int)}{n:Int}{c:List Int}(h:0<=n)(h':n<l.length):Prim.ev (.put false 1 0 1) [.l (l.map yz),ii n,.l (c.map aB)]=some (.l ((l.set n.toNat c).map yz)):=
 Km (enc:=yz) (x:=c) h h' (λ_=>rfl) (by decide) rfl rfl rfl
theorem DS{α:Type}{enc:α->List T}{n:Nat}{x:α}{vs:List T}(h:n<4294967296)(hx:vs=enc x):Prim.ev .mk (ii (n:Int)::ii (n:Int)::vs)=some (.l ((List.replicate n x).map enc)):=by
 rw[Mp (by unfold r8;exact h),hx,List.map_replicate]
theorem Qm{α:Type} [Inhabited α]{l:List α}{i j:Int}{x:α}(h:0<=i)(h':i<l.length)(hj:0<=j):gt (l.set i.toNat x) j=if i=j then x else gt l j:=by
 unfold gt
 simp only[List.getD_eq_getElem?_getD,List.getElem?_set]
 by_cases e:i=j
 ·subst e
  simp[show i.toNat<l.length by omega]
 ·have:¬(i.toNat=j.toNat):=by omega
  simp[e,this]
theorem Qo{α:Type} [Inhabited α]{n:Nat}{x:α}{j:Int}(h:0<=j)(h':j<n):gt (List.replicate n x) j=x:=by
 unfold gt
 simp only[List.getD_eq_getElem?_getD]
 rw[List.getElem?_replicate,if_pos (by omega)]
 rfl
def je(s:List ah)(ar v:Int):Int:=eV (λx=>dO x ⟨ar,1,v,0,0,[],0,false⟩) s
def sA(s:List ah)(ar v:Int):List cB:=if je s ar v<0 then []else(gt s (je s ar v)).aV
def yA(l:List cB)(b:Int):Int:=if eV (λ(x:cB)=>x.to==b) l<0 then 0 else(gt l (eV (λ(x:cB)=>x.to==b) l)).cost
def rW(s:List ah)(ar a b:Int):Int:=yA (sA s ar a) b
def dU(s:List ah)(ar a b:Int):Int:=if rW s ar b a=0 then 0 else rW s ar a b
theorem Kp(s:List ah)(ar v:Int):je s ar v<s.length:=sm _ _
theorem adZ{s:List ah}(hn:aR s)(ar v:Int):(sA s ar v).length<=1048576:=by
 unfold sA
 split
 ·simp
 ·exact hn.gt (by omega) (Kp s ar v)
theorem avK(s:List ah)(ar a b:Int)(h:s.length<=1048576)(hn:aR s):Di [.l (s.map ai),ii ar,ii a,ii b]=some [ii (rW s ar a b)]:=by
 have h2:=Kp s ar a
 rw[at5];simp(disch:=omega) only[↓pQ,pS,↓reduceIte,aj,ak,ap,aq,au,av,aw,ax,ay,kc_,Ps,IB]
 rw[<-je]
 unfold rW sA
 by_cases hk:je s ar a<0
 ·simp only[hk,if_true];rfl
 ·have h3:0<=je s ar a:=by omega
  have hl:=hn.gt h3 h2
  simp only[hk,if_false]
  simp(disch:=omega) only[↓pQ,pS,↓reduceIte,aj,ak,ap,aq,au,av,aw,ax,ay,kc_,]
  refine(EQ (gt s (je s ar a)).aV (λi=>[ii 0,ii i]) (λx=>x.to==b) (λi=>some [ii (gt (gt s (je s ar a)).aV i).cost]) (kE:=some [ii 0]) rfl (dG hl) ?_ ?_).trans ?_
  ·intro i hi q
   simp(disch:=omega) only[↓pQ,pS,↓reduceIte,aj,ak,ap,aq,au,av,aw,ax,ay,kc_,hi]
  ·intro q
   simp(disch:=omega) only[↓pQ,pS,↓reduceIte,aj,ak,ap,aq,au,av,aw,ax,ay,kc_,]
  ·unfold yA
   split<;>rfl
theorem E3(s:List ah)(ar a b:Int)(h:s.length<=1048576)(hn:aR s):Dj [.l (s.map ai),ii ar,ii a,ii b]=some [ii (dU s ar a b)]:=by
 rw[at7];simp(disch:=omega) only[↓pQ,pS,↓reduceIte,aj,ak,ap,aq,au,av,aw,ax,ay,Pu,avK _ _ _ _ h hn]
 unfold dU
 split<;>rfl
theorem avL(s:List ah)(ar a:Int)(h:s.length<=1048576):ES [.l (s.map ai),ii ar,ii a]=if je s ar a<0 then some [ii 0,ii 0,ii 0,ii 0,ii 0,.l [],ii 0,bb false,bb false]else some (ai (gt s (je s ar a))++[bb true]):=by
 have h2:=Kp s ar a
 rw[asi];simp(disch:=omega) only[↓pQ,pS,↓reduceIte,aj,ak,ap,aq,au,av,aw,ax,ay,OA,DO]
 rw[<-je]
 by_cases hk:je s ar a<0
 ·simp only[hk,if_true]
 ·have h3:0<=je s ar a:=by omega
  simp only[hk,if_false]
  simp(disch:=omega) only[↓pQ,pS,↓reduceIte,aj,ak,ap,aq,au,av,aw,ax,ay,]
  rfl
theorem Qp(s:List ah)(ar a:Int)(h:s.length<=1048576):∃c0 c1 c2 c3 c4 c6 c7:T,ES [.l (s.map ai),ii ar,ii a]=some [c0,c1,c2,c3,c4,.l ((sA s ar a).map fe),c6,c7,bb (decide (0<=je s ar a))]:=by
 rw[avL _ _ _ h]
 unfold sA
 by_cases hk:je s ar a<0
 ·rw[if_pos hk,if_pos hk,show decide (0<=je s ar a)=false by simp;omega];exact⟨_,_,_,_,_,_,_,rfl⟩
 ·rw[if_neg hk,if_neg hk,show decide (0<=je s ar a)=true by simp;omega];exact⟨_,_,_,_,_,_,_,rfl⟩
theorem avM(s:List ah)(ar a b:Int)(h:s.length<=1048576)(hn:aR s):YV [.l (s.map ai),ii ar,ii a,ii b]=some [ii (rW s ar a b)]:=by
 obtain⟨c0,c1,c2,c3,c4,c6,c7,e⟩:=Qp s ar a h
 have hl:=adZ hn ar a
 rw[asl];simp(disch:=omega) only[↓pQ,pS,↓reduceIte,aj,ak,ap,aq,au,av,aw,ax,ay,qZ_,OB,e]
 refine(EQ (sA s ar a) (λi=>[ii 0,ii i]) (λx=>x.to==b) (λi=>some [ii (gt (sA s ar a) i).cost]) (kE:=some [ii 0]) rfl (dG hl) ?_ ?_).trans ?_
 ·intro i hi q
  simp(disch:=omega) only[↓pQ,pS,↓reduceIte,aj,ak,ap,aq,au,av,aw,ax,ay,qZ_,hi]
 ·intro q
  simp(disch:=omega) only[↓pQ,pS,↓reduceIte,aj,ak,ap,aq,au,av,aw,ax,ay,qZ_,]
 ·unfold rW yA
  split<;>rfl
theorem DT{s:List ah}(h:df s=true){r:ah}(hr:r∈s):eW r=true:=by
 simp only[df,bD]at h
 obtain⟨i,hi,rfl⟩:=List.mem_iff_getElem.1 hr
 have:=bY.1 h.2 i hi
 simp only[bD]at this
 rw[<-eC hi]
 exact this.1
theorem So{o:Int}{l:List cB}(h:wh o l=true){x:cB}(hx:x∈l):(1<=x.to∧x.to<=6)∧x.to≠o∧(1<=x.cost∧x.cost<=1000):=by
 obtain⟨i,hi,rfl⟩:=List.mem_iff_getElem.1 hx
 have:=bY.1 h i hi
 simp only[bD,bg,Bool.not_eq_true',decide_eq_false_iff_not]at this
 rw[<-eC hi]
 exact⟨this.1.1.1,this.1.1.2,this.1.2⟩
theorem ad0{o:Int}{l:List cB}(h:wh o l=true):l.Pairwise λa b=>a.to<b.to:=by
 have h:=bY.1 h
 rw[List.pairwise_iff_getElem]
 have step:∀i,(hi:i+1<l.length)->l[i].to<l[i+1].to:=by
  intro i hi
  have:=h (i+1) hi
  simp only[bD,Bool.or_eq_true,Bool.not_eq_true',decide_eq_false_iff_not,decide_eq_true_eq]at this
  have h2:=this.2.resolve_left (by omega)
  rwa[show(((i+1:Nat):Int)-1)=(i:Int) by omega,eC (by omega),eC hi]at h2
 intro i j hi hj rV
 obtain⟨d,rfl⟩:∃d,j=i+1+d:=⟨j-i-1,by omega⟩
 clear rV
 induction d with
 |zero=>exact step i (by omega)
 |succ d ih=>exact Int.lt_trans (ih (by omega)) (step (i+1+d) (by omega))
theorem IP{s:List ah}(h:df s=true)(ar v:Int):wh v (sA s ar v)=true:=by
 unfold sA
 by_cases hk:je s ar v<0
 ·rw[if_pos hk];simp[wh,kC]
 ·rw[if_neg hk]
  have hm:=lg (l:=s) (n:=je s ar v) (by omega) (Kp s ar v)
  have hr:=DT h hm
  have hs:=ue (λx=>dO x ⟨ar,1,v,0,0,[],0,false⟩) s (by unfold je at hk;omega)
  rw[<-je]at hs
  rw[sameKey_iff]at hs
  obtain⟨_,h2,h3,_⟩:=hs
  simp only at h2 h3
  unfold eW at hr
  rw[h2]at hr
  simp only[if_true,bD]at hr
  have hq:=hr.2.1.1.2
  rw[h3]at hq
  exact hq
theorem ad1{l:List cB}{b:Int}(h:∀x∈l,x.to≠b):yA l b=0:=by
 unfold yA
 rw[if_pos]
 rw[EP]
 intro x hx
 simp[h x hx]
theorem avN{l:List cB}{b:Int}(h:yA l b≠0):∃x∈l,x.to=b∧x.cost=yA l b:=by
 unfold yA at h⊢
 split at h
 ·exact absurd rfl h
 ·rename_i hf
  rw[if_neg hf]
  have hs:=ue (λ(y:cB)=>y.to==b) l (by omega)
  simp only[beq_iff_eq]at hs
  exact⟨_,lg (by omega) (sm _ _),hs,rfl⟩
theorem ad2{s:List ah}(h:df s=true)(ar a b:Int):0<=rW s ar a b∧rW s ar a b<=1000:=by
 unfold rW
 by_cases h0:yA (sA s ar a) b=0
 ·rw[h0];omega
 ·obtain⟨x,hx,_,h2⟩:=avN h0
  have:=So (IP h ar a) hx
  omega
theorem Kq{s:List ah}(h:df s=true)(ar a b:Int):0<=dU s ar a b∧dU s ar a b<=1000:=by
 unfold dU
 split
 ·omega
 ·exact ad2 h ar a b
def IQ(s:List ah)(ar a:Int)(M:List Int)(x:cB):List Int:=if gj x.to 1 6=true∧rW s ar x.to a>0 then M.set (a*7+x.to).toNat x.cost else M
def Ae(s:List ah)(ar:Int)(M:List Int)(i:Nat):List Int:=(sA s ar (i+1)).foldl (IQ s ar (i+1)) M
def DU(s:List ah)(ar:Int):List Int:=(List.range 6).foldl (Ae s ar) (List.replicate 49 0)
theorem Qq(s:List ah)(ar a:Int)(M:List Int)(x:cB):(IQ s ar a M x).length=M.length:=by
 unfold IQ;split<;>simp
theorem Qr{α β:Type}{g:List α->β->List α}(h:∀M x,(g M x).length=M.length)(l:List β)(M:List α):(l.foldl g M).length=M.length:=by
 induction l generalizing M with
 |nil=>rfl
 |cons x l ih=>rw[List.foldl_cons,ih,h]
theorem Qs(s:List ah)(ar:Int)(M:List Int)(i:Nat):(Ae s ar M i).length=M.length:=Qr (Qq s ar _) _ _
theorem avO(s:List ah)(ar:Int):(DU s ar).length=49:=by
 unfold DU
 rw[Qr (λM i=>Qs s ar M i)]
 simp
theorem avP{s:List ah}(hs:df s=true)(ar:Int){a:Int}(ha:1<=a∧a<=6){u v:Int}(hu:1<=u∧u<=6)(hv:1<=v∧v<=6){o:Int}:∀(l:List cB) (M:List Int),wh o l=true∨(l.Pairwise (λa b=>a.to<b.to)∧∀x∈l,1<=x.to∧x.to<=6)->M.length=49->
  gt (l.foldl (IQ s ar a) M) (u*7+v)=if u=a∧rW s ar v a>0∧∃x∈l,x.to=v then yA l v else gt M (u*7+v):=by
 intro l M hl hM
 replace hl:l.Pairwise (λa b=>a.to<b.to)∧∀x∈l,1<=x.to∧x.to<=6:=by
  rcases hl with hl|hl
  ·exact⟨ad0 hl,λx hx=>(So hl hx).1⟩
  ·exact hl
 induction l generalizing M with
 |nil=>simp
 |cons y l ih=>
  have hp:=List.pairwise_cons.1 hl.1
  have hy:=hl.2 y (.head _)
  have hlen:=Qq s ar a M y
  rw[List.foldl_cons,ih (IQ s ar a M y) (by rw[hlen];exact hM) ⟨hp.2,λx hx=>hl.2 x (.tail _ hx)⟩]
  have zg:gt (IQ s ar a M y) (u*7+v)=if u=a∧v=y.to∧rW s ar y.to a>0 then y.cost else gt M (u*7+v):=by
   unfold IQ
   by_cases hc:gj y.to 1 6=true∧rW s ar y.to a>0
   ·rw[if_pos hc,Qm (by omega) (by omega) (by omega)]
    refine zR ⟨λh=>⟨by omega,by omega,hc.2⟩,λh=>by omega⟩ _ _
   ·rw[if_neg hc,if_neg (λh=>hc ⟨bg.2 hy,h.2.2⟩)]
  rw[zg]
  by_cases km:∃x∈l,x.to=v
  ·obtain⟨x,hx,e⟩:=km
   have dH:¬(v=y.to):=by have:=hp.1 x hx;omega
   have DV:yA (y::l) v=yA l v:=by
    unfold yA eV
    rw[List.findIdx?_cons]
    have:(y.to==v)=false:=by simp;omega
    rw[this]
    simp only[dh,if_false]
    cases hf:l.findIdx? (λ(z:cB)=>z.to==v)with
    |none=>rfl
    |some k=>
     show(if((k+1:Nat):Int)<0 then 0 else(gt (y::l) ((k+1:Nat):Int)).cost)=if(k:Int)<0 then 0 else(gt l (k:Int)).cost
     rw[if_neg (by omega),if_neg (by omega)]
     rfl
   by_cases y9:u=a∧rW s ar v a>0
   ·rw[if_pos ⟨y9.1,y9.2,x,hx,e⟩,if_pos ⟨y9.1,y9.2,x,.tail _ hx,e⟩,DV]
   ·rw[if_neg (λh=>y9 ⟨h.1,h.2.1⟩),if_neg (λh=>dH h.2.1),if_neg (λh=>y9 ⟨h.1,h.2.1⟩)]
  ·rw[if_neg (λh=>km h.2.2)]
   by_cases hc:u=a∧v=y.to∧rW s ar y.to a>0
   ·rw[if_pos hc,if_pos ⟨hc.1,by rw[hc.2.1];exact hc.2.2,y,.head _,hc.2.1.symm⟩]
    unfold yA eV
    rw[List.findIdx?_cons]
    have:(y.to==v)=true:=by simp;omega
    rw[this]
    rfl
   ·rw[if_neg hc,if_neg]
    rintro⟨h1,h2,x,hx,e⟩
    rcases List.mem_cons.1 hx with rfl|hx
    ·exact hc ⟨h1,e.symm,by rw[e];exact h2⟩
    ·exact km ⟨x,hx,e⟩
theorem avQ{s:List ah}(hs:df s=true)(ar:Int){i:Nat}(hi:i<6){M:List Int}(hM:M.length=49){u v:Int}(hu:1<=u∧u<=6)(hv:1<=v∧v<=6)(h0:u=(i:Int)+1->gt M (u*7+v)=0):
  gt (Ae s ar M i) (u*7+v)=if u=(i:Int)+1 then dU s ar u v else gt M (u*7+v):=by
 unfold Ae
 rw[avP (o:=(i:Int)+1) hs ar (by omega) hu hv _ _ (.inl (IP hs ar ((i:Int)+1))) hM]
 by_cases hc:u=(i:Int)+1
 ·rw[if_pos hc,h0 hc]
  unfold dU
  have hb:=ad2 hs ar v u
  by_cases h1:rW s ar v u=0
  ·rw[if_pos h1,if_neg]
   rintro⟨_,h2,_⟩
   rw[<-hc]at h2;omega
  ·rw[if_neg h1]
   by_cases h2:∃x∈sA s ar ((i:Int)+1),x.to=v
   ·rw[if_pos ⟨hc,by rw[<-hc];omega,h2⟩,<-hc];rfl
   ·rw[if_neg (λh=>h2 h.2.2)]
    unfold rW
    rw[ad1]
    intro x hx e
    exact h2 ⟨x,hc▸hx,e⟩
 ·rw[if_neg (λh=>hc h.1),if_neg hc]
theorem avR{s:List ah}(hs:df s=true)(ar:Int){u v:Int}(hu:1<=u∧u<=6)(hv:1<=v∧v<=6):gt (DU s ar) (u*7+v)=dU s ar u v:=by
 have key:=J6 (l:=List.range 6) (g:=Ae s ar) (c:=List.replicate 49 0) (Inv:=λi M=>M.length=49∧∀u v:Int,(1<=u∧u<=6)->(1<=v∧v<=6)->gt M (u*7+v)=if u<(i:Int)+1 then dU s ar u v else 0)
  ⟨by simp,λu v hu hv=>by rw[Qo (by omega) (by omega),if_neg (by omega)]⟩ (λi M hi ⟨h1,h2⟩=>by
   have hl:(List.range 6).length=6:=List.length_range
   rw[hl]at hi
   rw[eC (by rw[hl];omega),List.getElem_range]
   refine⟨by rw[Qs];exact h1,λu v hu hv=>?_⟩
   rw[avQ hs ar (by omega) h1 hu hv (λe=>by rw[h2 u v hu hv,if_neg (by omega)]),h2 u v hu hv]
   by_cases hc:u=(i:Int)+1
   ·rw[if_pos hc,if_pos (by omega)]
   ·rw[if_neg hc]
    exact zR ⟨λh=>by omega,λh=>by omega⟩ _ _)
 have:=key.2 u v hu hv
 rw[List.length_range,if_pos (by omega)]at this
 exact this
theorem avS(s:List ah)(ar:Int)(h:s.length<=1048576)(hn:aR s)(hs:df s=true):YY [.l (s.map ai),ii ar]=some [.l ((DU s ar).map aB)]:=by
 have e0:=DS (enc:=aB) (n:=49) (x:=0) (vs:=[ii 0]) (by decide) rfl
 rw[asn];simp only[OC,We]
 rw[show Prim.ev .mk [ii 49,ii 49,ii 0]=some (.l ((List.replicate 49 (0:Int)).map aB)) from e0,eB]
 refine sn 6 (λi M=>[ii (i+1),.l (M.map aB)]) (Ae s ar) (λM=>some [T.l (M.map aB)]) (List.replicate 49 0) (λ_ M=>M.length=49) rfl (dG (by omega)) (by simp) ?_ ?_
 ·intro i M hi hM
  refine⟨by rw[Qs];exact hM,λq=>?_⟩
  have eg:(i:Int)+1<=6:=by omega
  obtain⟨c0,c1,c2,c3,c4,c6,c7,e⟩:=Qp s ar ((i:Int)+1) h
  have hl:=adZ hn ar ((i:Int)+1)
  simp(disch:=omega) only[↓pQ,pS,↓reduceIte,aj,ak,ap,aq,au,av,aw,ax,ay,uh_,up_,eg,e]
  refine iP (sA s ar ((i:Int)+1)) (λj M=>[ii j,.l (M.map aB)]) (IQ s ar ((i:Int)+1)) (λM=>q [ii ((i+1:Nat)+1),.l (M.map aB)]) M (λ_ M=>M.length=49) rfl (dG hl) hM ?_ ?_
  ·intro j M hj hM
   refine⟨by rw[Qq];exact hM,λq=>?_⟩
   have ht:=So (IP hs ar ((i:Int)+1)) (lg (n:=j) (by omega) hj)
   unfold IQ
   have hb:gj (gt (sA s ar ((i:Int)+1)) j).to 1 6=true:=bg.2 ht.1
   simp(disch:=omega) only[↓pQ,pS,↓reduceIte,aj,ak,ap,aq,au,av,aw,ax,ay,uh_,up_,hj,wg,hb,avM _ _ _ _ h hn,DR]
   simp only[true_and]
   by_cases hc:rW s ar (gt (sA s ar ((i:Int)+1)) j).to ((i:Int)+1)>0
   ·simp only[hc,if_true]
   ·simp only[hc,if_false]
  ·intro M q' hM
   simp(disch:=omega) only[↓pQ,pS,↓reduceIte,aj,ak,ap,aq,au,av,aw,ax,ay,uh_,up_,]
 ·intro M q hM
  simp(disch:=omega) only[↓pQ,pS,↓reduceIte,aj,ak,ap,aq,au,av,aw,ax,ay,uh_,up_,]
def um{α:Type}(f:Nat->α):List α:=(List.range 7).map f
theorem DW{α:Type}(f:Nat->α):(um f).length=7:=by simp[um]
theorem Qv{α:Type} [Inhabited α](f:Nat->α){v:Int}(h:0<=v)(h':v<7):gt (um f) v=f v.toNat:=by
 obtain⟨n,rfl⟩:∃n:Nat,v=n:=⟨v.toNat,by omega⟩
 rw[eC (by rw[DW];omega)]
 simp[um]
theorem Sp{α:Type}{f g:Nat->α}(h:∀i,i<7->f i=g i):um f=um g:=by
 unfold um
 exact List.map_congr_left λi hi=>h i (by simpa using hi)
theorem DX{α:Type}(f:Nat->α)(n:Nat)(x:α):(um f).set n x=um λi=>if i=n then x else f i:=by
 refine List.ext_getElem (by simp[um]) λi h1 h2=>?_
 simp only[List.getElem_set,um,List.getElem_map,List.getElem_range]
 by_cases h:n=i
 ·simp[h]
 ·rw[if_neg h,if_neg (λe=>h e.symm)]
def E4(W:List Way)(D:List Int)(b:Int)(i:Nat):Int:=
 if¬((gt W ((i:Int)+1)).to=0)∧D.contains ((i:Int)+1)=false∧(b=0∨(gt W ((i:Int)+1)).cost<(gt W b).cost)then(i:Int)+1 else b
def et(W:List Way)(D:List Int):Int:=(List.range 6).foldl (E4 W D) 0
def nj(s:List ah)(ar fr eF:Int)(W:List Way)(i:Nat):List Way:=
 if dU s ar eF ((i:Int)+1)=0∨(i:Int)+1=fr then W
 else if(gt W ((i:Int)+1)).to=0∨(gt W eF).cost+dU s ar eF ((i:Int)+1)<(gt W ((i:Int)+1)).cost then
  W.set (i+1) ⟨(i:Int)+1,(gt W eF).cost+dU s ar eF ((i:Int)+1),if eF=fr then [(i:Int)+1]else(gt W eF).aP⟩
 else if(gt W eF).cost+dU s ar eF ((i:Int)+1)=(gt W ((i:Int)+1)).cost then
  W.set (i+1) (mB (gt W ((i:Int)+1)) ⟨(i:Int)+1,(gt W eF).cost+dU s ar eF ((i:Int)+1),if eF=fr then [(i:Int)+1]else(gt W eF).aP⟩)
 else W
def qg(s:List ah)(ar fr eF:Int)(W:List Way):List Way:=(List.range 6).foldl (nj s ar fr eF) W
def uo(s:List ah)(ar fr:Int):Nat->List Way->List Int->List Way
 |0,W,_=>W
 |k+1,W,D=>if et W D=0 then W else uo s ar fr k (qg s ar fr (et W D) W) (D++[et W D])
def vB:Way:=⟨0,0,[]⟩
def W0(fr:Int):List Way:=(List.replicate 7 vB).set fr.toNat ⟨fr,0,[]⟩
def Af(W:List Way):List Way:=W.filter λw=>!(w.to==0)
def aC(s:List ah)(ar fr:Int):List Way:=if df s=true∧gj fr 1 6=true∧0<=je s ar fr then Af (uo s ar fr 6 (W0 fr) [])else []
structure nU (W:List Way) (c:Int):Prop where
 len:W.length=7
 aP:∀v:Int,0<=v->v<7->fZ (gt W v).aP
 cost:∀v:Int,0<=v->v<7->0<=(gt W v).cost∧(gt W v).cost<=c
 to:∀v:Int,0<=v->v<7->(gt W v).to=0∨(gt W v).to=v
theorem nU.mono{W:List Way}{c c':Int}(h:nU W c)(hc:c<=c'):nU W c':=⟨h.len,h.aP,λv h1 h2=>by have:=h.cost v h1 h2;omega,h.to⟩
theorem uq{W:List Way}{i:Nat}{w:Way}{v:Int}(hl:W.length=7)(hi:i<6)(h0:0<=v):gt (W.set (i+1) w) v=if v=(i:Int)+1 then w else gt W v:=by
 have:=Qm (l:=W) (i:=(i:Int)+1) (j:=v) (x:=w) (by omega) (by omega) h0
 rw[show((i:Int)+1).toNat=i+1 by omega]at this
 rw[this]
 exact zR ⟨λh=>h.symm,λh=>h.symm⟩ _ _
theorem Qw{a b:Way}(ha:fZ a.aP)(hb:fZ b.aP):fZ (mB a b).aP:=by
 unfold mB
 split
 ·exact ha
 ·split
  ·exact hb
  ·exact IG _ _
theorem Ag(a b:Way):(mB a b).cost=a.cost∨(mB a b).cost=b.cost:=by
 unfold mB
 split
 ·exact .inl rfl
 ·split
  ·exact .inr rfl
  ·exact .inl rfl
theorem xq{a b:Way}{n:Int}(ha:a.to=n)(hb:b.to=n):(mB a b).to=n:=by
 unfold mB
 split
 ·exact ha
 ·split
  ·exact hb
  ·exact ha
theorem IR{s:List ah}(hs:df s=true)(ar a:Int):dU s ar a a=0:=by
 have:rW s ar a a=0:=by
  unfold rW
  refine ad1 λx hx=>?_
  exact(So (IP hs ar a) hx).2.1
 unfold dU
 rw[this];rfl
theorem IU{s:List ah}(hs:df s=true)(ar fr:Int){eF:Int}(ha:1<=eF∧eF<=6){W:List Way}{c:Int}(hc:0<=c)(h:nU W (c+1000))(bI:(gt W eF).cost<=c){i:Nat}(hi:i<6):
  nU (nj s ar fr eF W i) (c+1000)∧gt (nj s ar fr eF W i) eF=gt W eF:=by
 have hb:=Kq hs ar eF ((i:Int)+1)
 have hz:=h.cost eF (by omega) (by omega)
 have ho:=h.cost ((i:Int)+1) (by omega) (by omega)
 have ub:=h.aP ((i:Int)+1) (by omega) (by omega)
 have hX:fZ (if eF=fr then [(i:Int)+1]else(gt W eF).aP):=by
  split
  ·exact Kl (by omega) (by omega)
  ·exact h.aP eF (by omega) (by omega)
 have zg:∀w:Way,w.to=(i:Int)+1->fZ w.aP->0<=w.cost->w.cost<=c+1000->¬(dU s ar eF ((i:Int)+1)=0)->nU (W.set (i+1) w) (c+1000)∧gt (W.set (i+1) w) eF=gt W eF:=by
  intro w h1 h2 h3 h4 h5
  have dH:¬(eF=(i:Int)+1):=by intro e;rw[<-e,IR hs]at h5;exact h5 rfl
  refine⟨⟨by simp[h.len],λv h6 h7=>?_,λv h6 h7=>?_,λv h6 h7=>?_⟩,?_⟩
  ·rw[uq h.len hi h6];split
   ·exact h2
   ·exact h.aP v h6 h7
  ·rw[uq h.len hi h6];split
   ·exact⟨h3,h4⟩
   ·exact h.cost v h6 h7
  ·rw[uq h.len hi h6];split
   ·rename_i e;rw[e,h1];exact .inr rfl
   ·exact h.to v h6 h7
  ·rw[uq h.len hi (by omega),if_neg dH]
 unfold nj
 by_cases h1:dU s ar eF ((i:Int)+1)=0∨(i:Int)+1=fr
 ·rw[if_pos h1];exact⟨h,rfl⟩
 rw[if_neg h1]
 by_cases h2:(gt W ((i:Int)+1)).to=0∨(gt W eF).cost+dU s ar eF ((i:Int)+1)<(gt W ((i:Int)+1)).cost
 ·rw[if_pos h2]
  exact zg _ rfl hX (by show 0<=(gt W eF).cost+_;omega) (by show(gt W eF).cost+_<=_;omega) (λe=>h1 (.inl e))
 rw[if_neg h2]
 by_cases h3:(gt W eF).cost+dU s ar eF ((i:Int)+1)=(gt W ((i:Int)+1)).cost
 ·rw[if_pos h3]
  have pD:=(h.to ((i:Int)+1) (by omega) (by omega)).resolve_left (λe=>h2 (.inl e))
  have htc:(mB (gt W ((i:Int)+1)) ⟨(i:Int)+1,(gt W eF).cost+dU s ar eF ((i:Int)+1),if eF=fr then [(i:Int)+1]else(gt W eF).aP⟩).cost=(gt W ((i:Int)+1)).cost:=by
   rcases Ag (gt W ((i:Int)+1)) ⟨(i:Int)+1,(gt W eF).cost+dU s ar eF ((i:Int)+1),if eF=fr then [(i:Int)+1]else(gt W eF).aP⟩with e|e
   ·exact e
   ·rw[e];exact h3
  exact zg _ (xq pD rfl) (Qw ub hX) (by rw[htc];omega) (by rw[htc];omega) (λe=>h1 (.inl e))
 ·rw[if_neg h3];exact⟨h,rfl⟩
theorem avT{s:List ah}(hs:df s=true)(ar fr:Int){eF:Int}(ha:1<=eF∧eF<=6){W:List Way}{c:Int}(hc:0<=c)(h:nU W c):nU (qg s ar fr eF W) (c+1000)∧gt (qg s ar fr eF W) eF=gt W eF:=by
 have hl:(List.range 6).length=6:=List.length_range
 exact J6 (l:=List.range 6) (g:=nj s ar fr eF) (c:=W) (Inv:=λ_ W'=>nU W' (c+1000)∧gt W' eF=gt W eF) ⟨h.mono (by omega),rfl⟩ λi W' hi ⟨h1,h2⟩=>by
  rw[hl]at hi
  rw[eC (by rw[hl];omega),List.getElem_range]
  obtain⟨h3,h4⟩:=IU hs ar fr ha hc h1 (by rw[h2];exact(h.cost eF (by omega) (by omega)).2) (show i<6 by omega)
  exact⟨h3,h4.trans h2⟩
theorem DY(W:List Way)(D:List Int):(et W D=0∧∀u:Int,1<=u->u<=6->(gt W u).to≠0->u∈D)∨
  ((1<=et W D∧et W D<=6)∧(gt W (et W D)).to≠0∧et W D∉D∧∀u:Int,1<=u->u<=6->(gt W u).to≠0->u∉D->(gt W (et W D)).cost<=(gt W u).cost):=by
 have hl:(List.range 6).length=6:=List.length_range
 have key:=J6 (l:=List.range 6) (g:=E4 W D) (c:=0) (Inv:=λi b=>(b=0∧∀u:Int,1<=u->u<=i->(gt W u).to≠0->u∈D)∨
  ((1<=b∧b<=i)∧(gt W b).to≠0∧b∉D∧∀u:Int,1<=u->u<=i->(gt W u).to≠0->u∉D->(gt W b).cost<=(gt W u).cost)) (.inl ⟨rfl,λu h1 h2=>by omega⟩) λi b hi hb=>by
   rw[hl]at hi
   rw[eC (by rw[hl];omega),List.getElem_range]
   unfold E4
   have hD:∀x:Int,D.contains x=false↔x∉D:=λx=>by rw[<-Bool.not_eq_true,List.contains_iff_mem]
   by_cases hc:¬((gt W ((i:Int)+1)).to=0)∧D.contains ((i:Int)+1)=false∧(b=0∨(gt W ((i:Int)+1)).cost<(gt W b).cost)
   ·rw[if_pos hc]
    refine .inr ⟨by omega,hc.1,(hD _).1 hc.2.1,λu h1 h2 h3 h4=>?_⟩
    by_cases hu:u=(i:Int)+1
    ·rw[hu];exact Int.le_refl _
    ·rcases hb with⟨hb,pw⟩|⟨mH,pw,hb3,hb4⟩
     ·exact absurd (pw u h1 (by omega) h3) h4
     ·have:=hb4 u h1 (by omega) h3 h4
      rcases hc.2.2 with h5|h5
      ·omega
      ·omega
   ·rw[if_neg hc]
    rcases hb with⟨hb,pw⟩|⟨mH,pw,hb3,hb4⟩
    ·refine .inl ⟨hb,λu h1 h2 h3=>?_⟩
     by_cases hu:u=(i:Int)+1
     ·subst hu
      by_cases hm:(i:Int)+1∈D
      ·exact hm
      ·exact absurd ⟨h3,(hD _).2 hm,.inl hb⟩ hc
     ·exact pw u h1 (by omega) h3
    ·refine .inr ⟨by omega,pw,hb3,λu h1 h2 h3 h4=>?_⟩
     by_cases hu:u=(i:Int)+1
     ·subst hu
      have:¬((gt W ((i:Int)+1)).cost<(gt W b).cost):=λh5=>hc ⟨h3,(hD _).2 h4,.inr h5⟩
      omega
     ·exact hb4 u h1 (by omega) h3 h4
 rw[hl]at key
 exact key
structure iK (fr:Int) (W:List Way) (D:List Int):Prop where
 ok:nU W (1000*D.length)
 fr6:1<=fr∧fr<=6
 nd:D.Nodup
 mem:∀v∈D,(1<=v∧v<=6)∧(gt W v).to≠0
 mono:∀v∈D,∀u:Int,1<=u->u<=6->u∉D->(gt W u).to≠0->(gt W v).cost<=(gt W u).cost
 first:(D=[]∧∀u:Int,1<=u->u<=6->(gt W u).to≠0->u=fr)∨fr∈D
theorem avV{D l:List Int}(hn:D.Nodup)(hm:∀v∈D,v∈l):D.length<=l.length:=by
 induction D generalizing l with
 |nil=>simp
 |cons x D ih=>
  have hx:=List.nodup_cons.1 hn
  have hl:=List.length_erase_of_mem (hm x (.head _))
  have hp:0<l.length:=List.length_pos_of_mem (hm x (.head _))
  have:=ih (l:=l.erase x) hx.2 λv hv=>(List.mem_erase_of_ne (show v≠x fromλe=>hx.1 (e▸hv))).2 (hm v (.tail _ hv))
  simp only[List.length_cons];omega
theorem ad3{D:List Int}(hn:D.Nodup)(hm:∀v∈D,1<=v∧v<=6):D.length<=6:=
 avV (l:=xn) hn λv hv=>jM.2 (hm v hv)
theorem vC{fr:Int}(h:1<=fr∧fr<=6){v:Int}(h0:0<=v)(h7:v<7):gt (W0 fr) v=if fr=v then⟨fr,0,[]⟩else vB:=by
 unfold W0
 rw[Qm (by omega) (by simp;omega) h0]
 split
 ·rfl
 ·exact Qo h0 (by omega)
theorem iK.start{fr:Int}(h:1<=fr∧fr<=6):iK fr (W0 fr) []:=by
 refine⟨⟨by simp[W0],λv h0 h7=>?_,λv h0 h7=>?_,λv h0 h7=>?_⟩,h,.nil,by simp,by simp,.inl ⟨rfl,λu h1 h2 h3=>?_⟩⟩
 ·rw[vC h h0 h7];split<;>exact adT
 ·rw[vC h h0 h7];split<;>simp[vB]
 ·rw[vC h h0 h7];split
  ·rename_i e;exact .inr e
  ·exact .inl rfl
 ·rw[vC h (by omega) (by omega)]at h3
  split at h3
  ·rename_i e;exact e.symm
  ·exact absurd rfl h3
theorem avW{s:List ah}(hs:df s=true)(ar fr:Int){eF:Int}(ha:1<=eF∧eF<=6){W:List Way}{c:Int}(hc:0<=c)(h:nU W c){v:Int}(hv:1<=v∧v<=6):
  gt (qg s ar fr eF W) v=gt W v∨((gt (qg s ar fr eF W) v).to=v∧v≠fr∧¬(dU s ar eF v=0)∧((gt W v).to=0∨(gt W eF).cost+dU s ar eF v<=(gt W v).cost)∧(gt (qg s ar fr eF W) v).cost=(gt W eF).cost+dU s ar eF v):=by
 have hl:(List.range 6).length=6:=List.length_range
 have key:=J6 (l:=List.range 6) (g:=nj s ar fr eF) (c:=W) (Inv:=λi W'=>nU W' (c+1000)∧gt W' eF=gt W eF∧(∀u:Int,(i:Int)<u->u<=6->gt W' u=gt W u)∧∀u:Int,1<=u->u<=i->gt W' u=gt W u∨((gt W' u).to=u∧u≠fr∧¬(dU s ar eF u=0)∧((gt W u).to=0∨(gt W eF).cost+dU s ar eF u<=(gt W u).cost)∧(gt W' u).cost=(gt W eF).cost+dU s ar eF u))
  ⟨h.mono (by omega),rfl,λu _ _=>rfl,λu h1 h2=>by omega⟩ λi W' hi ⟨h1,h2,h3,h4⟩=>by
  rw[hl]at hi
  rw[eC (by rw[hl];omega),List.getElem_range]
  have ou:i<6:=by omega
  obtain⟨h5,h6⟩:=IU hs ar fr ha hc h1 (by rw[h2];exact(h.cost eF (by omega) (by omega)).2) ou
  refine⟨h5,h6.trans h2,λu h7 h8=>?_,λu h7 h8=>?_⟩
  ·rw[<-h3 u (by omega) h8]
   unfold nj
   split
   ·rfl
   ·split
    ·rw[uq h1.len ou (by omega),if_neg (by omega)]
    ·split
     ·rw[uq h1.len ou (by omega),if_neg (by omega)]
     ·rfl
  ·by_cases hu:u=(i:Int)+1
   ·subst hu
    have hold:=h3 ((i:Int)+1) (by omega) (by omega)
    unfold nj
    rw[hold,h2]
    by_cases q1:dU s ar eF ((i:Int)+1)=0∨(i:Int)+1=fr
    ·rw[if_pos q1];exact .inl hold
    rw[if_neg q1]
    by_cases q2:(gt W ((i:Int)+1)).to=0∨(gt W eF).cost+dU s ar eF ((i:Int)+1)<(gt W ((i:Int)+1)).cost
    ·rw[if_pos q2,uq h1.len ou (by omega),if_pos rfl]
     exact .inr ⟨rfl,λe=>q1 (.inr e),λe=>q1 (.inl e),q2.imp_right (λe=>by omega),rfl⟩
    rw[if_neg q2]
    by_cases q3:(gt W eF).cost+dU s ar eF ((i:Int)+1)=(gt W ((i:Int)+1)).cost
    ·rw[if_pos q3,uq h1.len ou (by omega),if_pos rfl]
     have pD:=(h.to ((i:Int)+1) (by omega) (by omega)).resolve_left (λe=>q2 (.inl e))
     refine .inr ⟨xq pD rfl,λe=>q1 (.inr e),λe=>q1 (.inl e),.inr (by omega),?_⟩
     ·rcases Ag (gt W ((i:Int)+1)) ⟨(i:Int)+1,(gt W eF).cost+dU s ar eF ((i:Int)+1),if eF=fr then [(i:Int)+1]else(gt W eF).aP⟩with e|e
      ·rw[e];omega
      ·rw[e]
    ·rw[if_neg q3];exact .inl hold
   ·have hk:gt (nj s ar fr eF W' i) u=gt W' u:=by
     unfold nj
     split
     ·rfl
     ·split
      ·rw[uq h1.len ou (by omega),if_neg hu]
      ·split
       ·rw[uq h1.len ou (by omega),if_neg hu]
       ·rfl
    rw[hk]
    exact h4 u h7 (by omega)
 rw[hl]at key
 exact key.2.2.2 v hv.1 hv.2
theorem iK.step{s:List ah}(hs:df s=true)(ar:Int){fr:Int}{W:List Way}{D:List Int}(h:iK fr W D)(hb:et W D≠0):iK fr (qg s ar fr (et W D) W) (D++[et W D]):=by
 obtain⟨h1,h2,h3,h4⟩:=(DY W D).resolve_left λe=>hb e.1
 have hc:(0:Int)<=1000*D.length:=by omega
 obtain⟨g1,g2⟩:=avT hs ar fr h1 hc h.ok
 have Bw:=λv hv=>avW hs ar fr h1 hc h.ok (v:=v) hv
 have hold:∀v∈D,gt (qg s ar fr (et W D) W) v=gt W v:=by
  intro v hv
  rcases Bw v (h.mem v hv).1 with e|⟨_,_,e1,e2,_⟩
  ·exact e
  ·have hm:=h.mono v hv _ h1.1 h1.2 h3 h2
   have hk:=Kq hs ar (et W D) v
   rcases e2 with e2|e2
   ·exact absurd e2 (h.mem v hv).2
   ·omega
 refine⟨?_,h.fr6,?_,λv hv=>?_,λv hv u Rq y9 hu3 hu4=>?_,?_⟩
 ·refine g1.mono ?_
  simp only[List.length_append,List.length_singleton,CI,CJ];omega
 ·rw[List.nodup_append]
  exact⟨h.nd,by simp,by intro a ha b jU;rw[List.mem_singleton]at jU;subst jU;intro e;exact h3 (e▸ha)⟩
 ·rcases List.mem_append.1 hv with hv|hv
  ·rw[hold v hv];exact h.mem v hv
  ·rw[List.mem_singleton]at hv
   subst hv
   rw[g2];exact⟨h1,h2⟩
 ·have avX:u∉D∧u≠et W D:=by simpa using hu3
  have hcv:(gt (qg s ar fr (et W D) W) v).cost<=(gt W (et W D)).cost:=by
   rcases List.mem_append.1 hv with hv|hv
   ·rw[hold v hv];exact h.mono v hv _ h1.1 h1.2 h3 h2
   ·rw[List.mem_singleton]at hv;subst hv;rw[g2];exact Int.le_refl _
  rcases Bw u ⟨Rq,y9⟩with e|⟨_,_,_,_,e⟩
  ·rw[e]at hu4⊢
   have:=h4 u Rq y9 hu4 avX.1
   omega
  ·have hk:=Kq hs ar (et W D) u
   omega
 ·right
  rcases h.first with⟨e,hf⟩|hf
  ·rw[hf _ h1.1 h1.2 h2];simp
  ·simp[hf]
theorem iK.full{fr:Int}{W:List Way}{D:List Int}(h:iK fr W D)(hd:D.length=6):et W D=0:=by
 rcases DY W D with e|⟨h1,h2,h3,_⟩
 ·exact e.1
 ·have hn:(et W D::D).Nodup:=List.nodup_cons.2 ⟨h3,h.nd⟩
  have:=ad3 hn λv hv=>by
   rcases List.mem_cons.1 hv with rfl|hv
   ·exact h1
   ·exact(h.mem v hv).1
  simp at this;omega
theorem iK.len{fr:Int}{W:List Way}{D:List Int}(h:iK fr W D):D.length<=6:=ad3 h.nd λv hv=>(h.mem v hv).1
theorem avY{s:List ah}(hs:df s=true){ar fr:Int}{F:af->af}(stf:List Way->List Int->List T)(out:List Way->List Int->Option (List T))
  (hF:∀W D q,iK fr W D->F q (stf W D)=if et W D=0 then out W D else q (stf (qg s ar fr (et W D) W) (D++[et W D])))
  (fin:∀W D,iK fr W D->et W D=0->out W D=some [.l ((Af W).map bp)]):
  ∀k W D R,iK fr W D->D.length+k=6->k<R->iter F R (stf W D)=some [.l ((Af (uo s ar fr k W D)).map bp)]:=by
 intro k
 induction k with
 |zero=>
  intro W D R h hk hR
  cases R with
  |zero=>omega
  |succ R=>
   have hb:=h.full (by omega)
   unfold iter
   rw[hF W D _ h,if_pos hb,fin W D h hb];rfl
 |succ k ih=>
  intro W D R h hk hR
  cases R with
  |zero=>omega
  |succ R=>
   unfold iter
   rw[hF W D _ h]
   by_cases hb:et W D=0
   ·rw[if_pos hb,fin W D h hb]
    unfold uo
    rw[if_pos hb]
   ·rw[if_neg hb,ih _ _ R (h.step hs ar hb) (by simp;omega) (by omega)]
    conv=>rhs;unfold uo
    rw[if_neg hb]
theorem av0(W:List Way):(Af W).length<=W.length:=List.length_filter_le _ _
set_option maxHeartbeats 1600000 in
theorem Qx(s:List ah)(ar fr:Int)(h:s.length<=1048576)(hn:aR s):HI [.l (s.map ai),ii ar,ii fr]=some [.l ((aC s ar fr).map bp)]:=by
 have hP:=Kp s ar fr
 rw[aud];simp(disch:=omega) only[↓pQ,pS,↓reduceIte,aj,ak,ap,aq,au,av,aw,ax,ay,ui,uj,uk,ul,Py,Ix _ h hn,vA,IB]
 rw[<-je]
 unfold aC
 cases hs:df s with
 |false=>simp
 |true=>
 cases h6:gj fr 1 6 with
 |false=>simp
 |true=>
 have IV:=bg.1 h6
 by_cases hp:je s ar fr<0
 ·have hq:¬(0<=je s ar fr):=by omega
  simp[hp,hq]
 have hq:0<=je s ar fr:=by omega
 rw[if_pos (show(true=true∧true=true∧0<=je s ar fr) from⟨rfl,rfl,hq⟩)]
 have hm:=DS (enc:=bp) (n:=7) (x:=vB) (vs:=[ii 0,ii 0,.l []]) (by decide) rfl
 have hl7:(List.replicate 7 vB).length=7:=by simp
 have bf:fr<((List.replicate 7 vB).length:Int):=by rw[hl7];omega
 have jP:Prim.ev (.put true 3 0 1) [.l ((List.replicate 7 vB).map bp),ii fr,ii fr]=some (.l ((W0 fr).map bp)):=by
  rw[avH (by omega) bf,Qo (by omega) (by omega)];rfl
 simp only[not_true_eq_false,if_false,hp]
 rw[show Prim.ev .mk [ii 7,ii 7,ii 0,ii 0,.l []]=some (.l ((List.replicate 7 vB).map bp)) from hm,eB,xg (by omega) bf,eB,jP,eB]
 refine avY hs (λW D=>[.l (D.map aB),.l (W.map bp)]) (λW D=>some [.l ((Af W).map bp)]) ?_ (λW D _ _=>rfl) 6 (W0 fr) [] rounds (iK.start IV) rfl (by unfold rounds;omega)
 intro W D q hI
 simp(disch:=omega) only[↓pQ,pS,↓reduceIte,aj,ak,ap,aq,au,av,aw,ax,ay,ui,uj,uk,ul,]
 have hW:=hI.ok
 have hWl:=hW.len
 have hD:=hI.len
 have hc:∀v:Int,0<=v->v<7->0<=(gt W v).cost∧(gt W v).cost<=6000:=λv h0 h1=>by have:=hW.cost v h0 h1;omega
 refine sn 6 (λi b=>[ii b,ii (i+1)]) (E4 W D) (λb=>if b=0 then some [T.l ((Af W).map bp)]else q [T.l ((D++[b]).map aB),T.l ((qg s ar fr b W).map bp)]) 0 (λi b=>0<=b∧b<=6∧((i:Int)<=6->b≠0->(gt W b).to≠0)) rfl (dG (by omega)) (by simp) ?_ ?_ |>.trans (by rfl)
 ·intro i b hi ⟨JM,Sq,ki⟩
  refine⟨?_,λw=>?_⟩
  ·unfold E4
   split
   ·rename_i hx;exact⟨by omega,by omega,λ_ _=>hx.1⟩
   ·exact⟨JM,Sq,λh1=>ki (by omega)⟩
  ·have eg:(i:Int)+1<=6:=by omega
   simp(disch:=omega) only[↓pQ,pS,↓reduceIte,aj,ak,ap,aq,au,av,aw,ax,ay,ui,uj,uk,ul,eg,xo _ _ (show D.length<=1048576 by omega)]
   unfold E4
   cases E5:D.contains ((i:Int)+1)<;>by_cases q1:(gt W ((i:Int)+1)).to=0<;>by_cases q2:b=0<;>by_cases q3:(gt W ((i:Int)+1)).cost<(gt W b).cost<;>simp[q1,q2,q3]
 ·intro b w ⟨JM,Sq,ki⟩
  simp(disch:=omega) only[↓pQ,pS,↓reduceIte,aj,ak,ap,aq,au,av,aw,ax,ay,ui,uj,uk,ul,]
  by_cases hb:b=0
  ·simp only[hb,if_true]
   have hz:Prim.ev .len [.l (W.map bp)]=some (ii W.length):=GY
   refine(iP W (λi c=>[.l (c.map bp),ii i,.l (gF bp W i)]) (λc w=>if(!(w.to==0))=true then c++[w]else c) (λc=>some [T.l (c.map bp)]) [] (λi c=>c.length<=i) rfl (dG (by omega)) (by simp) ?_ ?_).trans (by rw[Hb,List.nil_append,<-Af])
   ·intro i c hi pE
    refine⟨by split<;>(try simp)<;>omega,λw=>?_⟩
    have eg:i<W.length:=by omega
    simp(disch:=omega) only[↓pQ,pS,↓reduceIte,aj,ak,ap,aq,au,av,aw,ax,ay,ui,uj,uk,ul,hi,avJ (enc:=bp) (λ_=>rfl) eg]
    by_cases q1:(gt W (i:Int)).to=0<;>simp[q1]
   ·intro c w pE
    simp(disch:=omega) only[↓pQ,pS,↓reduceIte,aj,ak,ap,aq,au,av,aw,ax,ay,ui,uj,uk,ul,]
  ·simp only[hb,if_false]
   have mH:1<=b∧b<=6:=by omega
   refine sn 6 (λi W=>[ii (i+1),.l (W.map bp)]) (nj s ar fr b) (λW'=>q [T.l ((D++[b]).map aB),T.l (W'.map bp)]) W (λ_ W'=>nU W' (1000*D.length+1000)∧gt W' b=gt W b) rfl (dG (by omega)) ⟨hW.mono (by omega),rfl⟩ ?_ ?_
   ·intro i W' hi ⟨ud,oG⟩
    have pC:=hW.cost b (by omega) (by omega)
    have cf:=IU hs ar fr mH (by omega) ud (by rw[oG];exact pC.2) (show i<6 by omega)
    refine⟨⟨cf.1,cf.2.trans oG⟩,λw=>?_⟩
    have eg:(i:Int)+1<=6:=by omega
    have kX:=ud.len
    have Rv:=Kq hs ar b ((i:Int)+1)
    have av2:=ud.cost b (by omega) (by omega)
    have av3:=ud.cost ((i:Int)+1) (by omega) (by omega)
    have IW:=ud.aP b (by omega) (by omega)
    have ub:=ud.aP ((i:Int)+1) (by omega) (by omega)
    have hhl:=tJ IW
    have hX:fZ (if b=fr then [(i:Int)+1]else(gt W' b).aP):=by
     split
     ·exact Kl (by omega) (by omega)
     ·exact IW
    have vD:((i:Int)+1).toNat=i+1:=by omega
    have hT1:=λc=>jp_ (gt W' ((i:Int)+1)).to (gt W' ((i:Int)+1)).cost (gt W' ((i:Int)+1)).aP ((i:Int)+1) c [(i:Int)+1] ub (Kl (by omega) (by omega))
    have hT2:=λc=>jp_ (gt W' ((i:Int)+1)).to (gt W' ((i:Int)+1)).cost (gt W' ((i:Int)+1)).aP ((i:Int)+1) c (gt W' b).aP ub IW
    unfold nj
    by_cases q1:dU s ar b ((i:Int)+1)=0
    ·simp(disch:=omega) only[↓pQ,pS,↓reduceIte,aj,ak,ap,aq,au,av,aw,ax,ay,ui,uj,uk,ul,eg,E3 _ _ _ _ h hn,q1,true_or]
    by_cases q2:(i:Int)+1=fr
    ·simp(disch:=omega) only[↓pQ,pS,↓reduceIte,aj,ak,ap,aq,au,av,aw,ax,ay,ui,uj,uk,ul,eg,E3 _ _ _ _ h hn,q1,eq_true q2,or_true]
    by_cases q3:b=fr
    ·have IX:=eq_true q3
     by_cases q4:(gt W' ((i:Int)+1)).to=0
     ·simp(disch:=omega) only[↓pQ,pS,↓reduceIte,aj,ak,ap,aq,au,av,aw,ax,ay,ui,uj,uk,ul,eg,E3 _ _ _ _ h hn,q1,q2,IX,q4,tK _ (show(gt W' b).aP.length<=1048576 by omega),Ad,IL,vD,true_or]
     by_cases q5:(gt W' b).cost+dU s ar b ((i:Int)+1)<(gt W' ((i:Int)+1)).cost
     ·simp(disch:=omega) only[↓pQ,pS,↓reduceIte,aj,ak,ap,aq,au,av,aw,ax,ay,ui,uj,uk,ul,eg,E3 _ _ _ _ h hn,q1,q2,IX,q4,q5,tK _ (show(gt W' b).aP.length<=1048576 by omega),Ad,IL,vD,or_true]
     by_cases q6:(gt W' b).cost+dU s ar b ((i:Int)+1)=(gt W' ((i:Int)+1)).cost
     ·simp(disch:=omega) only[↓pQ,pS,↓reduceIte,aj,ak,ap,aq,au,av,aw,ax,ay,ui,uj,uk,ul,eg,E3 _ _ _ _ h hn,q1,q2,IX,q4,q5,q6,tK _ (show(gt W' b).aP.length<=1048576 by omega),hT1,bp,Ad,IL,vD,or_self]
     ·simp(disch:=omega) only[↓pQ,pS,↓reduceIte,aj,ak,ap,aq,au,av,aw,ax,ay,ui,uj,uk,ul,eg,E3 _ _ _ _ h hn,q1,q2,IX,q4,q5,q6,tK _ (show(gt W' b).aP.length<=1048576 by omega),or_self]
    ·have IX:=eq_false q3
     by_cases q4:(gt W' ((i:Int)+1)).to=0
     ·simp(disch:=omega) only[↓pQ,pS,↓reduceIte,aj,ak,ap,aq,au,av,aw,ax,ay,ui,uj,uk,ul,eg,E3 _ _ _ _ h hn,q1,q2,IX,q4,tK _ (show(gt W' b).aP.length<=1048576 by omega),Ad,IL,vD,true_or]
     by_cases q5:(gt W' b).cost+dU s ar b ((i:Int)+1)<(gt W' ((i:Int)+1)).cost
     ·simp(disch:=omega) only[↓pQ,pS,↓reduceIte,aj,ak,ap,aq,au,av,aw,ax,ay,ui,uj,uk,ul,eg,E3 _ _ _ _ h hn,q1,q2,IX,q4,q5,tK _ (show(gt W' b).aP.length<=1048576 by omega),Ad,IL,vD,or_true]
     by_cases q6:(gt W' b).cost+dU s ar b ((i:Int)+1)=(gt W' ((i:Int)+1)).cost
     ·simp(disch:=omega) only[↓pQ,pS,↓reduceIte,aj,ak,ap,aq,au,av,aw,ax,ay,ui,uj,uk,ul,eg,E3 _ _ _ _ h hn,q1,q2,IX,q4,q5,q6,tK _ (show(gt W' b).aP.length<=1048576 by omega),hT2,bp,Ad,IL,vD,or_self]
     ·simp(disch:=omega) only[↓pQ,pS,↓reduceIte,aj,ak,ap,aq,au,av,aw,ax,ay,ui,uj,uk,ul,eg,E3 _ _ _ _ h hn,q1,q2,IX,q4,q5,q6,tK _ (show(gt W' b).aP.length<=1048576 by omega),or_self]
   ·intro W' w _
    simp(disch:=omega) only[↓pQ,pS,↓reduceIte,aj,ak,ap,aq,au,av,aw,ax,ay,ui,uj,uk,ul,]
theorem DZ:xn=(List.range 6).map λi:Nat=>(i:Int)+1:=rfl
theorem IY(a b:List Int)(ha:a.length<=1048576)(hb:b.length<=1048576):Hw [.l (a.map aB),.l (b.map aB)]=some [.l ((Ab a b).map aB)]:=by
 rw[asr];simp(disch:=omega) only[↓pQ,pS,↓reduceIte,aj,ak,ap,aq,au,av,aw,ax,ay,kB_,OE]
 refine(sn 6 (λi c=>[.l (c.map aB),ii (i+1)]) (λc i=>if(a.contains ((i:Int)+1)||b.contains ((i:Int)+1))=true then c++[(i:Int)+1]else c) (λc=>some [T.l (c.map aB)]) [] (λi c=>c.length<=i) rfl (dG (by omega)) (by simp) ?_ ?_).trans ?_
 ·intro i c hi hc
  refine⟨by split<;>(try simp)<;>omega,λq=>?_⟩
  have eg:(i:Int)+1<=6:=by omega
  cases h1:a.contains ((i:Int)+1)<;>cases h2:b.contains ((i:Int)+1)<;>simp(disch:=omega) only[↓pQ,pS,↓reduceIte,aj,ak,ap,aq,au,av,aw,ax,ay,kB_,eg,P_ _ _ ha,P_ _ _ hb,h1,h2,Bool.or_true,Bool.or_false,dh]
 ·intro c q hc
  simp(disch:=omega) only[↓pQ,pS,↓reduceIte,aj,ak,ap,aq,au,av,aw,ax,ay,kB_,]
 ·rw[M0 (λi:Nat=>a.contains ((i:Int)+1)||b.contains ((i:Int)+1)) (λi:Nat=>(i:Int)+1),List.nil_append]
  unfold Ab
  rw[DZ,List.filter_map]
  rfl
theorem av4(a b:Int)(t:T)(a' b':Int)(t':T):CY [ii a,ii b,t,ii a',ii b',t']=some [bb (decide (b<b'))]:=by
 rw[asA];simp(disch:=omega) only[↓pQ,pS,↓reduceIte,aj,ak,ap,aq,au,av,aw,ax,ay,OJ]
theorem ad5(a b:Int)(l:List Int)(a' b':Int)(l':List Int)(h:l.length<=1048576)(h':l'.length<=1048576):Nj [ii a,ii b,.l (l.map aB),ii a',ii b',.l (l'.map aB)]=some (bp (mB ⟨a,b,l⟩ ⟨a',b',l'⟩)):=by
 rw[asC];simp(disch:=omega) only[↓pQ,pS,↓reduceIte,aj,ak,ap,aq,au,av,aw,ax,ay,OK,av4,P' _ _ _ h,P' _ _ _ h',IY _ _ h h']
 unfold mB
 by_cases h1:b<b'
 ·have h2:b'>b:=h1
  simp only[h1,h2,if_true];rfl
 ·have h2:¬(b'>b):=h1
  by_cases h3:b'<b
  ·have h4:b>b':=h3
   simp only[h1,h2,h3,h4,if_true,if_false];rfl
  ·have h4:¬(b>b'):=h3
   simp only[h1,h2,h3,h4,if_false];rfl
def tL(W:List Way):List Int:=um λi=>if i=0 then 0 else if(gt W (i:Int)).to=0 then -1 else(gt W (i:Int)).cost
def wj(W:List Way):List (List Int):=um λi=>(gt W (i:Int)).aP
def yB(D:List Int):List Bool:=um λi=>D.contains (i:Int)
theorem D0(W:List Way){v:Int}(h:1<=v)(h':v<=6):gt (tL W) v=if(gt W v).to=0 then -1 else(gt W v).cost:=by
 unfold tL
 rw[Qv _ (by omega) (by omega),if_neg (by omega),show((v.toNat:Nat):Int)=v by omega]
theorem Qy(W:List Way){v:Int}(h:0<=v)(h':v<=6):gt (wj W) v=(gt W v).aP:=by
 unfold wj
 rw[Qv _ h (by omega),show((v.toNat:Nat):Int)=v by omega]
theorem QA(D:List Int){v:Int}(h:0<=v)(h':v<=6):gt (yB D) v=D.contains v:=by
 unfold yB
 rw[Qv _ h (by omega),show((v.toNat:Nat):Int)=v by omega]
theorem QB(W:List Way):(tL W).length=7:=DW _
theorem QC(W:List Way):(wj W).length=7:=DW _
theorem QD(D:List Int):(yB D).length=7:=DW _
theorem D1{W:List Way}(hl:W.length=7){i:Nat}(hi:i<6){w:Way}(ht:w.to≠0):tL (W.set (i+1) w)=(tL W).set (i+1) w.cost:=by
 unfold tL
 rw[DX]
 refine Sp λj hj=>?_
 rw[uq hl hi (by omega)]
 by_cases h:j=i+1
 ·subst h
  simp[ht]
 ·rw[if_neg (show¬((j:Int)=(i:Int)+1) by omega),if_neg h]
theorem Sr{W:List Way}(hl:W.length=7){i:Nat}(hi:i<6)(w:Way):wj (W.set (i+1) w)=(wj W).set (i+1) w.aP:=by
 unfold wj
 rw[DX]
 refine Sp λj hj=>?_
 rw[uq hl hi (by omega)]
 by_cases h:j=i+1
 ·subst h
  rw[if_pos (by simp),if_pos rfl]
 ·rw[if_neg (show¬((j:Int)=(i:Int)+1) by omega),if_neg h]
theorem ad6{W:List Way}(hl:W.length=7){i:Nat}(hi:i<6){w:Way}(ht:w.to≠0)(h0:(gt W ((i:Int)+1)).to≠0)(hc:w.cost=(gt W ((i:Int)+1)).cost):tL (W.set (i+1) w)=tL W:=by
 rw[D1 hl hi ht]
 unfold tL
 rw[DX]
 refine Sp λj hj=>?_
 by_cases h:j=i+1
 ·subst h
  rw[if_pos rfl,if_neg (by omega),if_neg (by simpa using h0),hc]
  simp
 ·rw[if_neg h]
theorem av5(D:List Int){b:Int}(h:1<=b)(h':b<=6):(yB D).set b.toNat true=yB (D++[b]):=by
 unfold yB
 rw[DX]
 refine Sp λj hj=>?_
 by_cases e:j=b.toNat
 ·rw[if_pos e]
  have:(j:Int)=b:=by omega
  rw[this]
  simp
 ·rw[if_neg e]
  have:¬((j:Int)=b):=by omega
  rw[Bool.eq_iff_iff,List.contains_iff_mem,List.contains_iff_mem]
  simp[this]
theorem av6{W:List Way}(h:W.length=7):W=um λi=>gt W (i:Int):=by
 refine List.ext_getElem (by rw[DW,h]) λi h1 h2=>?_
 simp only[um,List.getElem_map,List.getElem_range]
 rw[eC h1]
theorem av7{s:List ah}(hs:df s=true){ar fr:Int}{F:af->af}(st:Int->List Way->List Int->List T){out:List Way->Option (List T)}
  (hA:∀W D q,iK fr W D->D.length<6->et W D=0->F q (st (D.length+1) W D)=q (st 7 W D))
  (hB:∀W D q,iK fr W D->D.length<6->et W D≠0->F q (st (D.length+1) W D)=q (st (D.length+1+1) (qg s ar fr (et W D) W) (D++[et W D])))
  (fin:∀W D q,iK fr W D->et W D=0->F q (st 7 W D)=out W):
  ∀k W D R,iK fr W D->D.length+k=6->k+1<R->iter F R (st (D.length+1) W D)=out (uo s ar fr k W D):=by
 intro k
 induction k with
 |zero=>
  intro W D R h hk hR
  cases R with
  |zero=>omega
  |succ R=>
   have hb:=h.full (by omega)
   unfold iter
   rw[show((D.length:Int)+1)=7 by omega]
   exact fin W D _ h hb
 |succ k ih=>
  intro W D R h hk hR
  cases R with
  |zero=>omega
  |succ R=>
   unfold iter
   by_cases hb:et W D=0
   ·rw[hA W D _ h (by omega) hb]
    cases R with
    |zero=>omega
    |succ R=>
     unfold iter
     rw[fin W D _ h hb]
     unfold uo
     rw[if_pos hb]
   ·rw[hB W D _ h (by omega) hb]
    have:=ih _ _ R (h.step hs ar hb) (by simp;omega) (by omega)
    rw[show(((D++[et W D]).length:Int)+1)=D.length+1+1 by simp]at this
    rw[this]
    conv=>rhs;unfold uo
    rw[if_neg hb]
theorem av8{W:List Way}{D:List Int}{fr:Int}(h:iK fr W D)(hb:et W D=0):Af W=((List.range 6).filter λi:Nat=>D.contains ((i:Int)+1)).map λi:Nat=>(⟨(i:Int)+1,(gt W ((i:Int)+1)).cost,(gt W ((i:Int)+1)).aP⟩:Way):=by
 have hD:=((DY W D).resolve_right λe=>by omega).2
 have e:W=gt W 0::(List.range 6).map λi:Nat=>gt W ((i:Int)+1):=(av6 h.ok.len).trans rfl
 have h0:(gt W 0).to=0:=(h.ok.to 0 (by omega) (by omega)).elim id id
 have hf:Af W=(((List.range 6).map λi:Nat=>gt W ((i:Int)+1)).filter λw=>!(w.to==0)):=by
  unfold Af
  conv=>lhs;rw[e]
  rw[List.filter_cons,if_neg (by simp[h0])]
 rw[hf,List.filter_map]
 have hp:∀i:Nat,i∈List.range 6->((λw:Way=>!(w.to==0))∘λi:Nat=>gt W ((i:Int)+1)) i=D.contains ((i:Int)+1):=by
  intro i hi
  have hi:i<6:=by simpa using hi
  rw[Bool.eq_iff_iff,List.contains_iff_mem]
  simp only[Function.comp,Bool.not_eq_true',beq_eq_false_iff_ne]
  exact⟨λh1=>hD _ (by omega) (by omega) h1,λh1=>(h.mem _ h1).2⟩
 rw[List.filter_congr hp]
 refine List.map_congr_left λi hi=>?_
 obtain⟨h1,h2⟩:=List.mem_filter.1 hi
 have h1:i<6:=by simpa using h1
 have h3:=(h.mem _ (List.contains_iff_mem.1 h2)).2
 have h4:=(h.ok.to ((i:Int)+1) (by omega) (by omega)).resolve_left h3
 have hw:∀(w:Way) (n:Int),w.to=n->w=⟨n,w.cost,w.aP⟩:=by intro w n hn;subst hn;rfl
 exact hw _ _ h4
set_option maxHeartbeats 1600000 in
theorem QE(s:List ah)(ar fr:Int)(h:s.length<=1048576)(hn:aR s):Hx [.l (s.map ai),ii ar,ii fr]=some [.l ((aC s ar fr).map bp)]:=by
 obtain⟨c0,c1,c2,c3,c4,c6,c7,e⟩:=Qp s ar fr h
 rw[ast];simp(disch:=omega) only[↓pQ,pS,↓reduceIte,aj,ak,ap,aq,au,av,aw,ax,ay,oU,oV,oX,ol,oY,OG,e,kk_ _ h hn,wg]
 unfold aC
 cases hs:df s with
 |false=>simp
 |true=>
 cases h6:gj fr 1 6 with
 |false=>simp
 |true=>
 have IV:=bg.1 h6
 by_cases hq:0<=je s ar fr
 case neg=>simp[hq]
 rw[if_pos (show(true=true∧true=true∧0<=je s ar fr) from⟨rfl,rfl,hq⟩)]
 have m1:=DS (enc:=aB) (n:=7) (x:=0) (vs:=[ii 0]) (by decide) rfl
 have m2:=DS (enc:=yz) (n:=7) (x:=[]) (vs:=[.l []]) (by decide) rfl
 have m3:=DS (enc:=jY) (n:=7) (x:=false) (vs:=[bb false]) (by decide) rfl
 simp only[not_true_eq_false,if_false,hq]
 rw[avS _ _ h hn hs,Wf]
 rw[show Prim.ev .mk [ii 7,ii 7,ii 0]=some (.l ((List.replicate 7 (0:Int)).map aB)) from m1,eB,show Prim.ev .mk [ii 7,ii 7,.l []]=some (.l ((List.replicate 7 ([]:List Int)).map yz)) from m2,eB,
  show Prim.ev .mk [ii 7,ii 7,bb false]=some (.l ((List.replicate 7 false).map jY)) from m3,eB]
 have Kr:∀w:List Int,fZ w->Hw [.l [],.l (w.map aB)]=some [.l (w.map aB)]:=λw hw=>by
  have:=IY [] w (by simp) (by have:=tJ hw;omega)
  rw[adS hw]at this
  exact this
 have hML:=avO s ar
 have sel:∀W D q,iK fr W D->D.length<6->ol rounds Hw (ii fr) (T.l []) (T.l (List.map aB (DU s ar))) q [ii (D.length+1),.l ((wj W).map yz),.l ((yB D).map jY),.l ((tL W).map aB)]=
   if et W D=0 then q [ii 7,.l ((wj W).map yz),.l ((yB D).map jY),.l ((tL W).map aB)]
   else q [ii (D.length+1+1),.l ((wj (qg s ar fr (et W D) W)).map yz),.l ((yB (D++[et W D])).map jY),.l ((tL (qg s ar fr (et W D) W)).map aB)]:=by
  intro W D q hI hD
  have hle:(D.length:Int)+1<=6:=by omega
  have hW:=hI.ok
  have hWl:=hW.len
  have l1:=QD D
  have l2:=QB W
  have l3:=QC W
  simp(disch:=omega) only[↓pQ,pS,↓reduceIte,aj,ak,ap,aq,au,av,aw,ax,ay,oU,oV,oX,ol,oY,hle]
  refine sn 6 (λi b=>[ii b,ii (i+1)]) (E4 W D) (λb=>if b=0 then q [ii 7,.l ((wj W).map yz),.l ((yB D).map jY),.l ((tL W).map aB)]
   else q [ii (D.length+1+1),.l ((wj (qg s ar fr b W)).map yz),.l ((yB (D++[b])).map jY),.l ((tL (qg s ar fr b W)).map aB)]) 0 (λi b=>b=(List.range i).foldl (E4 W D) 0∧0<=b∧b<=6∧(b≠0->(gt W b).to≠0)) rfl (dG (by omega)) (by simp) ?_ ?_
  ·intro i b hi ⟨Az,JM,Sq,ki⟩
   refine⟨⟨by rw[List.range_succ,List.foldl_append,<-Az];rfl,?_⟩,λw=>?_⟩
   ·unfold E4
    split
    ·rename_i hx;exact⟨by omega,by omega,λ_=>hx.1⟩
    ·exact⟨JM,Sq,ki⟩
   ·have eg:(i:Int)+1<=6:=by omega
    have po:=D0 W (v:=(i:Int)+1) (by omega) eg
    have fR:=QA D (v:=(i:Int)+1) (by omega) eg
    have hco:=hW.cost ((i:Int)+1) (by omega) (by omega)
    unfold E4
    cases E5:D.contains ((i:Int)+1)with
    |true=>simp(disch:=omega) only[↓pQ,pS,↓reduceIte,aj,ak,ap,aq,au,av,aw,ax,ay,oU,oV,oX,ol,oY,eg,fR,E5];simp
    |false=>
     by_cases q1:(gt W ((i:Int)+1)).to=0
     ·simp(disch:=omega) only[↓pQ,pS,↓reduceIte,aj,ak,ap,aq,au,av,aw,ax,ay,oU,oV,oX,ol,oY,eg,fR,E5,po,q1,dh]
      simp
     ·have TA:(gt W ((i:Int)+1)).cost>=0:=hco.1
      by_cases q2:b=0
      ·simp(disch:=omega) only[↓pQ,pS,↓reduceIte,aj,ak,ap,aq,au,av,aw,ax,ay,oU,oV,oX,ol,oY,eg,fR,E5,po,q1,q2,TA,dh]
       simp
      ·have pC:=D0 W (v:=b) (by omega) Sq
       have q9:=ki q2
       by_cases q3:(gt W ((i:Int)+1)).cost<(gt W b).cost
       ·simp(disch:=omega) only[↓pQ,pS,↓reduceIte,aj,ak,ap,aq,au,av,aw,ax,ay,oU,oV,oX,ol,oY,eg,fR,E5,po,pC,q9,q1,q2,q3,TA,dh]
        simp
       ·simp(disch:=omega) only[↓pQ,pS,↓reduceIte,aj,ak,ap,aq,au,av,aw,ax,ay,oU,oV,oX,ol,oY,eg,fR,E5,po,pC,q9,q1,q2,q3,TA,dh]
        simp
  ·intro b w ⟨Az,JM,Sq,ki⟩
   by_cases hb:b=0
   ·simp(disch:=omega) only[↓pQ,pS,↓reduceIte,aj,ak,ap,aq,au,av,aw,ax,ay,oU,oV,oX,ol,oY,hb]
   have hbb:b=et W D:=Az
   have mH:1<=b∧b<=6:=by omega
   obtain⟨g1,g2,g3,g4⟩:=(DY W D).resolve_left λe=>hb (hbb.trans e.1)
   rw[<-hbb]at g1 g2 g3 g4
   have pC:=hW.cost b (by omega) (by omega)
   have l4:=QD (D++[b])
   have av9:fr∈D++[b]:=by
    rcases hI.first with⟨e,hf⟩|hf
    ·rw[hf b g1.1 g1.2 g2];simp
    ·simp[hf]
   simp(disch:=omega) only[↓pQ,pS,↓reduceIte,aj,ak,ap,aq,au,av,aw,ax,ay,oU,oV,oX,ol,oY,hb,avG,av5 D mH.1 mH.2]
   refine sn 6 (λi W'=>[ii (i+1),.l ((wj W').map yz),.l ((tL W').map aB)]) (nj s ar fr b) (λW'=>q [ii (D.length+1+1),.l ((wj W').map yz),.l ((yB (D++[b])).map jY),.l ((tL W').map aB)]) W (λi W'=>nU W' (1000*D.length+1000)∧gt W' b=gt W b∧∀v∈D,gt W' v=gt W v) rfl (dG (by omega)) ⟨hW.mono (by omega),rfl,λ_ _=>rfl⟩ ?_ ?_
   ·intro i W' hi ⟨ud,oG,hgD⟩
    have ou:i<6:=by omega
    have cf:=IU hs ar fr mH (by omega) ud (by rw[oG];exact pC.2) ou
    have eg:(i:Int)+1<=6:=by omega
    have kX:=ud.len
    have Rv:=Kq hs ar b ((i:Int)+1)
    have av2:=ud.cost b (by omega) (by omega)
    have av3:=ud.cost ((i:Int)+1) (by omega) (by omega)
    have IW:=ud.aP b (by omega) (by omega)
    have ub:=ud.aP ((i:Int)+1) (by omega) (by omega)
    have hhl:=tJ IW
    have aGN:=tJ ub
    have l5:=QB W'
    have l6:=QC W'
    have hM:=avR hs ar (u:=b) (v:=(i:Int)+1) mH (by omega)
    have po:=D0 W' (v:=(i:Int)+1) (by omega) eg
    have jX:=D0 W' (v:=b) mH.1 mH.2
    have q9:(gt W' b).to≠0:=by rw[oG];exact g2
    have fR:=QA (D++[b]) (v:=(i:Int)+1) (by omega) eg
    have vh:=Qy W' (v:=(i:Int)+1) (by omega) eg
    have E6:=Qy W' (v:=b) (by omega) mH.2
    have vD:((i:Int)+1).toNat=i+1:=by omega
    have pD:=ud.to ((i:Int)+1) (by omega) (by omega)
    have stay:((i:Int)+1∈D++[b])->dU s ar b ((i:Int)+1)≠0->nj s ar fr b W' i=W':=by
     intro hm dH
     unfold nj
     by_cases e:dU s ar b ((i:Int)+1)=0∨(i:Int)+1=fr
     ·rw[if_pos e]
     ·rw[if_neg e]
      rcases List.mem_append.1 hm with hm|hm
      ·have h1:=hgD _ hm
       have h2:=(hI.mem _ hm).2
       have h3:=hI.mono _ hm b g1.1 g1.2 g3 g2
       rw[h1,oG]
       rw[if_neg (by rintro(h4|h4);exact h2 h4;omega),if_neg (by omega)]
      ·rw[List.mem_singleton]at hm
       rw[hm,IR hs]at dH
       exact absurd rfl dH
    refine⟨⟨cf.1,cf.2.trans oG,λv hv=>?_⟩,λw=>?_⟩
    ·rw[<-hgD v hv]
     by_cases e:v=(i:Int)+1
     ·by_cases e2:dU s ar b ((i:Int)+1)=0
      ·unfold nj;rw[if_pos (.inl e2)]
      ·rw[stay (List.mem_append.2 (.inl (e▸hv))) e2]
     ·have hv0:=(hI.mem v hv).1
      unfold nj
      split
      ·rfl
      ·split
       ·rw[uq kX ou (by omega),if_neg e]
       ·split
        ·rw[uq kX ou (by omega),if_neg e]
        ·rfl
    by_cases q1:dU s ar b ((i:Int)+1)=0
    ·simp(disch:=omega) only[↓pQ,pS,↓reduceIte,aj,ak,ap,aq,au,av,aw,ax,ay,oU,oV,oX,ol,oY,eg,hM,q1]
     unfold nj
     rw[if_pos (.inl q1)]
    cases q2:(D++[b]).contains ((i:Int)+1)with
    |true=>
     rw[stay (List.contains_iff_mem.1 q2) q1]
     simp(disch:=omega) only[↓pQ,pS,↓reduceIte,aj,ak,ap,aq,au,av,aw,ax,ay,oU,oV,oX,ol,oY,eg,hM,q1,fR,q2]
    |false=>
     have q2':¬((i:Int)+1=fr):=λe=>by
      have:=List.contains_iff_mem.2 av9
      rw[<-e,q2]at this;cases this
     by_cases q3:b=fr
     ·skip
      have kl:nj s ar fr b W' i=(if(gt W' ((i:Int)+1)).to=0∨(gt W' b).cost+dU s ar b ((i:Int)+1)<(gt W' ((i:Int)+1)).cost then W'.set (i+1) ⟨(i:Int)+1,(gt W' b).cost+dU s ar b ((i:Int)+1),[(i:Int)+1]⟩
       else if(gt W' b).cost+dU s ar b ((i:Int)+1)=(gt W' ((i:Int)+1)).cost then W'.set (i+1) (mB (gt W' ((i:Int)+1)) ⟨(i:Int)+1,(gt W' b).cost+dU s ar b ((i:Int)+1),[(i:Int)+1]⟩)else W'):=by
       unfold nj
       rw[if_neg (by rintro(h1|h1);exact q1 h1;exact q2' h1),if_pos q3]
      rw[kl]
      by_cases q4:(gt W' ((i:Int)+1)).to=0
      ·rw[if_pos (.inl q4),Sr kX ou,D1 kX ou (by show(i:Int)+1≠0;omega)]
       simp(disch:=omega) only[↓pQ,pS,↓reduceIte,aj,ak,ap,aq,au,av,aw,ax,ay,oU,oV,oX,ol,oY,eg,hM,q1,fR,q2,po,jX,vh,E6,q9,eq_true q3,Kr _ (Kl (n:=(i:Int)+1) (by omega) (by omega)),DR,Ko,vD,IM,dh,q4]
      have GR:¬((gt W' ((i:Int)+1)).cost<0):=by omega
      by_cases q5:(gt W' b).cost+dU s ar b ((i:Int)+1)<(gt W' ((i:Int)+1)).cost
      ·rw[if_pos (.inr q5),Sr kX ou,D1 kX ou (by show(i:Int)+1≠0;omega)]
       simp(disch:=omega) only[↓pQ,pS,↓reduceIte,aj,ak,ap,aq,au,av,aw,ax,ay,oU,oV,oX,ol,oY,eg,hM,q1,fR,q2,po,jX,vh,E6,q9,eq_true q3,Kr _ (Kl (n:=(i:Int)+1) (by omega) (by omega)),DR,Ko,vD,IM,dh,q4,GR,q5]
      rw[if_neg (by rintro(h1|h1);exact q4 h1;exact q5 h1)]
      by_cases q6:(gt W' b).cost+dU s ar b ((i:Int)+1)=(gt W' ((i:Int)+1)).cost
      ·have QF:mB (gt W' ((i:Int)+1)) ⟨(i:Int)+1,(gt W' b).cost+dU s ar b ((i:Int)+1),[(i:Int)+1]⟩=⟨(gt W' ((i:Int)+1)).to,(gt W' ((i:Int)+1)).cost,Ab (gt W' ((i:Int)+1)).aP ([(i:Int)+1])⟩:=by
        unfold mB
        rw[if_neg (by show¬((gt W' b).cost+_>_);omega),if_neg (by show¬(_>(gt W' b).cost+_);omega)]
       rw[if_pos q6,QF,Sr kX ou,ad6 (w:=⟨(gt W' ((i:Int)+1)).to,(gt W' ((i:Int)+1)).cost,Ab (gt W' ((i:Int)+1)).aP [(i:Int)+1]⟩) kX ou q4 q4 rfl]
       have hu:=IY (gt W' ((i:Int)+1)).aP ([(i:Int)+1]) (by omega) (by simp)
       have q5':¬((gt W' ((i:Int)+1)).cost<(gt W' ((i:Int)+1)).cost):=by omega
       simp(disch:=omega) only[↓pQ,pS,↓reduceIte,aj,ak,ap,aq,au,av,aw,ax,ay,oU,oV,oX,ol,oY,eg,hM,q1,fR,q2,po,jX,vh,E6,q9,eq_true q3,Kr _ (Kl (n:=(i:Int)+1) (by omega) (by omega)),DR,Ko,vD,IM,dh,q4,GR,q5,q5',q6,hu]
      ·rw[if_neg q6]
       simp(disch:=omega) only[↓pQ,pS,↓reduceIte,aj,ak,ap,aq,au,av,aw,ax,ay,oU,oV,oX,ol,oY,eg,hM,q1,fR,q2,po,jX,vh,E6,q9,eq_true q3,Kr _ (Kl (n:=(i:Int)+1) (by omega) (by omega)),DR,Ko,vD,IM,dh,q4,GR,q5,q6]
     ·skip
      have kl:nj s ar fr b W' i=(if(gt W' ((i:Int)+1)).to=0∨(gt W' b).cost+dU s ar b ((i:Int)+1)<(gt W' ((i:Int)+1)).cost then W'.set (i+1) ⟨(i:Int)+1,(gt W' b).cost+dU s ar b ((i:Int)+1),(gt W' b).aP⟩
       else if(gt W' b).cost+dU s ar b ((i:Int)+1)=(gt W' ((i:Int)+1)).cost then W'.set (i+1) (mB (gt W' ((i:Int)+1)) ⟨(i:Int)+1,(gt W' b).cost+dU s ar b ((i:Int)+1),(gt W' b).aP⟩)else W'):=by
       unfold nj
       rw[if_neg (by rintro(h1|h1);exact q1 h1;exact q2' h1),if_neg q3]
      rw[kl]
      by_cases q4:(gt W' ((i:Int)+1)).to=0
      ·rw[if_pos (.inl q4),Sr kX ou,D1 kX ou (by show(i:Int)+1≠0;omega)]
       simp(disch:=omega) only[↓pQ,pS,↓reduceIte,aj,ak,ap,aq,au,av,aw,ax,ay,oU,oV,oX,ol,oY,eg,hM,q1,fR,q2,po,jX,vh,E6,q9,eq_false q3,Kr _ IW,DR,Ko,vD,IM,dh,q4]
      have GR:¬((gt W' ((i:Int)+1)).cost<0):=by omega
      by_cases q5:(gt W' b).cost+dU s ar b ((i:Int)+1)<(gt W' ((i:Int)+1)).cost
      ·rw[if_pos (.inr q5),Sr kX ou,D1 kX ou (by show(i:Int)+1≠0;omega)]
       simp(disch:=omega) only[↓pQ,pS,↓reduceIte,aj,ak,ap,aq,au,av,aw,ax,ay,oU,oV,oX,ol,oY,eg,hM,q1,fR,q2,po,jX,vh,E6,q9,eq_false q3,Kr _ IW,DR,Ko,vD,IM,dh,q4,GR,q5]
      rw[if_neg (by rintro(h1|h1);exact q4 h1;exact q5 h1)]
      by_cases q6:(gt W' b).cost+dU s ar b ((i:Int)+1)=(gt W' ((i:Int)+1)).cost
      ·have QF:mB (gt W' ((i:Int)+1)) ⟨(i:Int)+1,(gt W' b).cost+dU s ar b ((i:Int)+1),(gt W' b).aP⟩=⟨(gt W' ((i:Int)+1)).to,(gt W' ((i:Int)+1)).cost,Ab (gt W' ((i:Int)+1)).aP ((gt W' b).aP)⟩:=by
        unfold mB
        rw[if_neg (by show¬((gt W' b).cost+_>_);omega),if_neg (by show¬(_>(gt W' b).cost+_);omega)]
       rw[if_pos q6,QF,Sr kX ou,ad6 (w:=⟨(gt W' ((i:Int)+1)).to,(gt W' ((i:Int)+1)).cost,Ab (gt W' ((i:Int)+1)).aP (gt W' b).aP⟩) kX ou q4 q4 rfl]
       have hu:=IY (gt W' ((i:Int)+1)).aP ((gt W' b).aP) (by omega) (by omega)
       have q5':¬((gt W' ((i:Int)+1)).cost<(gt W' ((i:Int)+1)).cost):=by omega
       simp(disch:=omega) only[↓pQ,pS,↓reduceIte,aj,ak,ap,aq,au,av,aw,ax,ay,oU,oV,oX,ol,oY,eg,hM,q1,fR,q2,po,jX,vh,E6,q9,eq_false q3,Kr _ IW,DR,Ko,vD,IM,dh,q4,GR,q5,q5',q6,hu]
      ·rw[if_neg q6]
       simp(disch:=omega) only[↓pQ,pS,↓reduceIte,aj,ak,ap,aq,au,av,aw,ax,ay,oU,oV,oX,ol,oY,eg,hM,q1,fR,q2,po,jX,vh,E6,q9,eq_false q3,Kr _ IW,DR,Ko,vD,IM,dh,q4,GR,q5,q6]
   ·intro W' w _
    simp(disch:=omega) only[↓pQ,pS,↓reduceIte,aj,ak,ap,aq,au,av,aw,ax,ay,oU,oV,oX,ol,oY,]
 refine sn 6 (λi c=>[ii (i+1),.l (c.map aB)]) (λc i=>c.set (i+1) (-1)) (λc=>if c=[0,-1,-1,-1,-1,-1,-1]then some [T.l ((Af (uo s ar fr 6 (W0 fr) [])).map bp)]else none) (List.replicate 7 0) (λi c=>c=(List.range i).foldl (λc i=>c.set (i+1) (-1)) (List.replicate 7 0)) rfl (dG (by omega)) rfl ?_ ?_ |>.trans (by rfl)
 ·intro i c hi hc
  have hl:c.length=7:=by rw[hc,Qr (λM x=>by simp)];simp
  have eg:(i:Int)+1<=6:=by omega
  have vD:((i:Int)+1).toNat=i+1:=by omega
  refine⟨by rw[List.range_succ,List.foldl_append,<-hc];rfl,λq=>?_⟩
  simp(disch:=omega) only[↓pQ,pS,↓reduceIte,aj,ak,ap,aq,au,av,aw,ax,ay,oU,oV,oX,ol,oY,eg,DR,vD]
 ·intro c q hc
  have hc:c=[0,-1,-1,-1,-1,-1,-1]:=hc
  rw[hc,if_pos rfl]
  have bf:fr<(([0,-1,-1,-1,-1,-1,-1]:List Int).length:Int):=by simp;omega
  have jP:Prim.ev (.put true 1 0 1) [.l (([0,-1,-1,-1,-1,-1,-1]:List Int).map aB),ii fr,ii 0]=some (.l ((tL (W0 fr)).map aB)):=by
   rw[DR (by omega) bf]
   congr 3
   unfold tL
   rw[show([0,-1,-1,-1,-1,-1,-1]:List Int)=um (λi=>if i=0 then 0 else -1) from rfl,DX]
   refine Sp λi hi=>?_
   rw[vC IV (by omega) (by omega)]
   by_cases e:i=fr.toNat
   ·have e1:fr=(i:Int):=by omega
    have e2:¬(i=0):=by omega
    rw[if_pos e,if_neg e2,if_pos e1]
    show(0:Int)=if fr=0 then -1 else 0
    rw[if_neg (by omega)]
   ·have e1:¬(fr=(i:Int)):=by omega
    rw[if_neg e,if_neg e1]
    by_cases e0:i=0
    ·rw[if_pos e0,if_pos e0]
    ·rw[if_neg e0,if_neg e0];rfl
  have hh:(List.replicate 7 ([]:List Int))=wj (W0 fr):=by
   show um (λ_=>[])=_
   unfold wj
   refine Sp λi hi=>?_
   rw[vC IV (by omega) (by omega)]
   split<;>rfl
  have pA:List.replicate 7 false=yB []:=rfl
  simp(disch:=omega) only[↓pQ,pS,↓reduceIte,aj,ak,ap,aq,au,av,aw,ax,ay,oU,oV,oX,ol,oY,jP,hh,pA]
  refine av7 (s:=s) hs (ar:=ar) (fr:=fr) (λr W D=>[ii r,.l ((wj W).map yz),.l ((yB D).map jY),.l ((tL W).map aB)]) (out:=λW=>some [T.l ((Af W).map bp)]) ?_ ?_ ?_ 6 (W0 fr) [] rounds (iK.start IV) rfl (by unfold rounds;omega)
  ·intro W D q hI hD hb
   rw[sel W D q hI hD,if_pos hb]
  ·intro W D q hI hD hb
   rw[sel W D q hI hD,if_neg hb]
  ·intro W D q hI hb
   have l1:=QD D
   have l2:=QB W
   have l3:=QC W
   simp(disch:=omega) only[↓pQ,pS,↓reduceIte,aj,ak,ap,aq,au,av,aw,ax,ay,oU,oV,oX,ol,oY,]
   refine(sn 6 (λi c=>[.l (c.map bp),ii (i+1)]) (λc i=>if D.contains ((i:Int)+1)=true then c++[⟨(i:Int)+1,(gt W ((i:Int)+1)).cost,(gt W ((i:Int)+1)).aP⟩]else c) (λc=>some [T.l (c.map bp)]) [] (λi c=>c.length<=i) rfl (dG (by omega)) (by simp) ?_ ?_).trans (by rw[M0 (λi:Nat=>D.contains ((i:Int)+1)) (λi:Nat=>(⟨(i:Int)+1,(gt W ((i:Int)+1)).cost,(gt W ((i:Int)+1)).aP⟩:Way)),List.nil_append,<-av8 hI hb])
   ·intro i c hi hc
    refine⟨by split<;>(try simp)<;>omega,λw=>?_⟩
    have eg:(i:Int)+1<=6:=by omega
    have fR:=QA D (v:=(i:Int)+1) (by omega) eg
    have po:=D0 W (v:=(i:Int)+1) (by omega) eg
    have vh:=Qy W (v:=(i:Int)+1) (by omega) eg
    have hhl:=tJ (hI.ok.aP ((i:Int)+1) (by omega) (by omega))
    cases E5:D.contains ((i:Int)+1)with
    |false=>simp(disch:=omega) only[↓pQ,pS,↓reduceIte,aj,ak,ap,aq,au,av,aw,ax,ay,oU,oV,oX,ol,oY,eg,fR,E5,dh]
    |true=>
     have ht:=(hI.mem _ (List.contains_iff_mem.1 E5)).2
     simp(disch:=omega) only[↓pQ,pS,↓reduceIte,aj,ak,ap,aq,au,av,aw,ax,ay,oU,oV,oX,ol,oY,eg,fR,E5,po,vh,ht,IM]
   ·intro c w hc
    simp(disch:=omega) only[↓pQ,pS,↓reduceIte,aj,ak,ap,aq,au,av,aw,ax,ay,oU,oV,oX,ol,oY,]
theorem QG{α:Type}(key:α->Int):∀{a b:List α},a.Pairwise (λx y=>key x<key y)->b.Pairwise (λx y=>key x<key y)->(∀x,x∈a↔x∈b)->a=b
 | [],[],_,_,_=>rfl
 | [],y::b,_,_,h=>absurd ((h y).2 (.head _)) (by simp)
 |x::a,[],_,_,h=>absurd ((h x).1 (.head _)) (by simp)
 |x::a,y::b,ha,hb,h=>by
  have xm:=List.pairwise_cons.1 ha
  have jU:=List.pairwise_cons.1 hb
  have Lw:x=y:=by
   rcases List.mem_cons.1 ((h x).1 (.head _))with e|e
   ·exact e
   ·rcases List.mem_cons.1 ((h y).2 (.head _))with e'|e'
    ·exact e'.symm
    ·have:=jU.1 x e;have:=xm.1 y e';omega
  subst Lw
  have:a=b:=QG key xm.2 jU.2 λz=>by
   constructor
   ·intro hz
    rcases List.mem_cons.1 ((h z).1 (.tail _ hz))with e|e
    ·subst e;have:=xm.1 z hz;omega
    ·exact e
   ·intro hz
    rcases List.mem_cons.1 ((h z).2 (.tail _ hz))with e|e
    ·subst e;have:=jU.1 z hz;omega
    ·exact e
  rw[this]
def o9(o:Option Way)(w:Way):Option Way:=match o with|none=>some w|some b=>some (mB b w)
def kh(l:List Way):Option Way:=l.foldl o9 none
theorem IZ(l:List Way)(w:Way):kh (l++[w])=o9 (kh l) w:=by simp[kh]
def QH(l:List Way)(b:Way):Prop:=fZ b.aP∧(∃x∈l,x.cost=b.cost)∧(∀x∈l,b.cost<=x.cost)∧∀h,h∈b.aP↔∃x∈l,x.cost=b.cost∧h∈x.aP
theorem av'{l:List Way}{b w:Way}(hl:∀x∈l,fZ x.aP)(hw:fZ w.aP)(h:QH l b):QH (l++[w]) (mB b w):=by
 obtain⟨h1,⟨x0,EE,TZ⟩,h3,h4⟩:=h
 unfold mB
 by_cases q1:w.cost>b.cost
 ·rw[if_pos q1]
  refine⟨h1,⟨x0,by simp[EE],TZ⟩,λx hx=>?_,λh=>?_⟩
  ·rcases List.mem_append.1 hx with hx|hx
   ·exact h3 x hx
   ·rw[List.mem_singleton]at hx;subst hx;omega
  ·rw[h4]
   constructor
   ·rintro⟨x,hx,e1,e2⟩;exact⟨x,by simp[hx],e1,e2⟩
   ·rintro⟨x,hx,e1,e2⟩
    rcases List.mem_append.1 hx with hx|hx
    ·exact⟨x,hx,e1,e2⟩
    ·rw[List.mem_singleton]at hx;subst hx;omega
 rw[if_neg q1]
 by_cases q2:b.cost>w.cost
 ·rw[if_pos q2]
  refine⟨hw,⟨w,by simp,rfl⟩,λx hx=>?_,λh=>?_⟩
  ·rcases List.mem_append.1 hx with hx|hx
   ·have:=h3 x hx;omega
   ·rw[List.mem_singleton]at hx;subst hx;omega
  ·constructor
   ·intro hh;exact⟨w,by simp,rfl,hh⟩
   ·rintro⟨x,hx,e1,e2⟩
    rcases List.mem_append.1 hx with hx|hx
    ·have:=h3 x hx;omega
    ·rw[List.mem_singleton]at hx;subst hx;exact e2
 rw[if_neg q2]
 have he:w.cost=b.cost:=by omega
 refine⟨IG _ _,⟨x0,by simp[EE],TZ⟩,λx hx=>?_,λh=>?_⟩
 ·rcases List.mem_append.1 hx with hx|hx
  ·exact h3 x hx
  ·rw[List.mem_singleton]at hx;subst hx;show b.cost<=_;omega
 ·show h∈Ab b.aP w.aP↔_
  rw[IH]
  constructor
  ·rintro⟨_,hh|hh⟩
   ·obtain⟨x,hx,e1,e2⟩:=(h4 h).1 hh
    exact⟨x,by simp[hx],e1,e2⟩
   ·exact⟨w,by simp,he,hh⟩
  ·rintro⟨x,hx,e1,e2⟩
   rcases List.mem_append.1 hx with hx|hx
   ·exact⟨(hl x hx).2 h e2,.inl ((h4 h).2 ⟨x,hx,e1,e2⟩)⟩
   ·rw[List.mem_singleton]at hx;subst hx
    exact⟨hw.2 h e2,.inr e2⟩
theorem Kt{v:Int}:∀(n:Nat) (l:List Way),l.length=n->(∀x∈l,x.to=v∧fZ x.aP)->(l=[]∧kh l=none)∨∃b,kh l=some b∧b.to=v∧QH l b:=by
 intro n
 induction n with
 |zero=>intro l hl _;exact .inl ⟨List.eq_nil_of_length_eq_zero hl,by rw[List.eq_nil_of_length_eq_zero hl];rfl⟩
 |succ n ih=>
  intro l hl hx
  right
  obtain⟨l',w,rfl⟩:∃l' w,l=l'++[w]:=⟨l.dropLast,l.getLast (by intro e;subst e;simp at hl),(List.dropLast_concat_getLast _).symm⟩
  have hw:=hx w (by simp)
  rw[IZ]
  rcases ih l' (by simpa using hl) (λx h=>hx x (by simp[h]))with⟨rfl,e⟩|⟨b,e,hb,hB⟩
  ·rw[e]
   exact⟨w,rfl,hw.1,hw.2,⟨w,by simp,rfl⟩,by simp,λh=>by simp⟩
  ·rw[e]
   exact⟨mB b w,rfl,xq hb hw.1,av' (λx h=>(hx x (by simp[h])).2) hw.2 hB⟩
theorem ad8{v:Int}{l l':List Way}(h:∀x∈l,x.to=v∧fZ x.aP)(h':∀x,x∈l↔x∈l'):kh l=kh l':=by
 have kX:∀x∈l',x.to=v∧fZ x.aP:=λx hx=>h x ((h' x).2 hx)
 rcases Kt _ l rfl h with⟨e,e1⟩|⟨b,e1,hb,B⟩
 ·rcases Kt _ l' rfl kX with⟨e',e2⟩|⟨b',_,_,B'⟩
  ·rw[e1,e2]
  ·obtain⟨x,hx,_⟩:=B'.2.1
   have:=(h' x).2 hx
   rw[e]at this;cases this
 ·rcases Kt _ l' rfl kX with⟨e',e2⟩|⟨b',e2,jU,B'⟩
  ·obtain⟨x,hx,_⟩:=B.2.1
   have:=(h' x).1 hx
   rw[e']at this;cases this
  ·have hc:b.cost=b'.cost:=by
    obtain⟨x,hx,ex⟩:=B.2.1
    obtain⟨y,hy,ey⟩:=B'.2.1
    have h1:=B'.2.2.1 x ((h' x).1 hx)
    have h2:=B.2.2.1 y ((h' y).2 hy)
    omega
   have hh:b.aP=b'.aP:=Kk B.1.1 B'.1.1 λh=>by
    rw[B.2.2.2,B'.2.2.2,hc]
    exact⟨λ⟨x,hx,q⟩=>⟨x,(h' x).1 hx,q⟩,λ⟨x,hx,q⟩=>⟨x,(h' x).2 hx,q⟩⟩
   rw[e1,e2]
   congr 1
   cases b;cases b'
   simp only at hc hh hb jU
   subst hc hh hb jU
   rfl
def cC(C:List Way):List Way:=xn.filterMap λv=>kh (C.filter λw=>w.to==v)
theorem I0{C:List Way}(hC:∀x∈C,fZ x.aP){x:Way}:x∈cC C↔(1<=x.to∧x.to<=6)∧kh (C.filter λw=>w.to==x.to)=some x:=by
 unfold cC
 rw[List.mem_filterMap]
 constructor
 ·rintro⟨v,hv,e⟩
  have hv:=jM.1 hv
  rcases Kt (v:=v) _ (C.filter λw=>w.to==v) rfl (λy hy=>by have:=List.mem_filter.1 hy;exact⟨by simpa using this.2,hC y this.1⟩)with⟨_,e1⟩|⟨b,e1,hb,_⟩
  ·rw[e1]at e;cases e
  ·rw[e1]at e;cases e
   subst hb
   exact⟨hv,e1⟩
 ·rintro⟨h1,h2⟩
  exact⟨x.to,jM.2 h1,h2⟩
theorem D2(C:List Way)(hC:∀x∈C,fZ x.aP):(cC C).Pairwise λa b=>a.to<b.to:=by
 unfold cC
 rw[List.pairwise_filterMap]
 refine tI.imp λ{a b} ln x hx y hy=>?_
 have key:∀(v:Int) (z:Way),kh (C.filter λw=>w.to==v)=some z->z.to=v:=by
  intro v z hz
  rcases Kt (v:=v) _ (C.filter λw=>w.to==v) rfl (λy hy=>by have:=List.mem_filter.1 hy;exact⟨by simpa using this.2,hC y this.1⟩)with⟨_,e1⟩|⟨b,e1,hb,_⟩
  ·rw[e1]at hz;cases hz
  ·rw[e1]at hz;cases hz;exact hb
 rw[key a x hx,key b y hy]
 exact ln
theorem D3(C:List Way):(cC C).length<=6:=by
 unfold cC
 exact List.length_filterMap_le _ _
theorem Ss{C:List Way}(hC:∀x∈C,fZ x.aP){x:Way}(hx:x∈cC C):fZ x.aP∧∃y∈C,y.to=x.to∧y.cost=x.cost:=by
 have hm:=(I0 hC).1 hx
 rcases Kt (v:=x.to) _ (C.filter λw=>w.to==x.to) rfl (λy hy=>by have:=List.mem_filter.1 hy;exact⟨by simpa using this.2,hC y this.1⟩)with⟨_,e1⟩|⟨b,e1,hb,B⟩
 ·rw[e1]at hm;cases hm.2
 ·rw[e1]at hm;cases hm.2
  obtain⟨y,hy,e⟩:=B.2.1
  have:=List.mem_filter.1 hy
  exact⟨B.1,y,this.1,by simpa using this.2,e⟩
def cd(l:List Way)(n:Int):Nat:=(l.filter (λx=>decide (x.to<n))).length
theorem I1(l:List Way)(n:Int):cd l n<=l.length:=List.length_filter_le _ _
theorem I2{l:List Way}(h:l.Pairwise λa b=>a.to<b.to)(n:Int):∀i,(hi:i<l.length)->(l[i].to<n↔i<cd l n):=by
 induction l with
 |nil=>simp
 |cons x c ih=>
  have hs:=List.pairwise_cons.1 h
  have i3:=ih hs.2
  by_cases hx:x.to<n
  ·have e:cd (x::c) n=cd c n+1:=by simp[cd,List.filter_cons,hx]
   rw[e]
   intro i hi
   cases i with
   |zero=>simp[hx]
   |succ i=>rw[List.getElem_cons_succ,i3 i (by simpa using hi)];omega
  ·have e1:(x::c).filter (λx=>decide (x.to<n))=[]:=by
    rw[List.filter_eq_nil_iff]
    intro y hy
    rcases List.mem_cons.1 hy with rfl|hy
    ·simp;omega
    ·have:=hs.1 y hy;simp;omega
   have e:cd (x::c) n=0:=by unfold cd;rw[e1];rfl
   rw[e]
   intro i hi
   refine⟨λh3=>?_,λh3=>absurd h3 (by omega)⟩
   cases i with
   |zero=>rw[List.getElem_cons_zero]at h3;omega
   |succ i=>
    rw[List.getElem_cons_succ]at h3
    have:=hs.1 _ (List.getElem_mem (by simpa using hi:i<c.length));omega
def tM(l:List Way)(w:Way):List Way:=
 if cd l w.to<l.length∧(gt l (cd l w.to:Nat)).to=w.to then l.set (cd l w.to) (mB (gt l (cd l w.to:Nat)) w)
 else l.take (cd l w.to)++([w]++l.drop (cd l w.to))
theorem ad9{C:List Way}(hC:∀x∈C,fZ x.aP){w:Way}(hw:1<=w.to∧w.to<=6)(hh:fZ w.aP):tM (cC C) w=cC (C++[w]):=by
 have hC':∀x∈C++[w],fZ x.aP:=λx hx=>by
  rcases List.mem_append.1 hx with hx|hx
  ·exact hC x hx
  ·rw[List.mem_singleton]at hx;subst hx;exact hh
 have rX:=D2 C hC
 have kl:=I2 rX w.to
 have hle:=I1 (cC C) w.to
 have Su:=List.pairwise_iff_getElem.1 rX
 have hf:∀v:Int,(C++[w]).filter (λx=>x.to==v)=C.filter (λx=>x.to==v)++if w.to=v then [w]else []:=by
  intro v
  rw[List.filter_append,List.filter_cons]
  by_cases e:w.to=v<;>simp[e]
 refine QG Way.to ?_ (D2 _ hC') λx=>?_
 ·unfold tM
  split
  ·rename_i hc
   rw[List.pairwise_iff_getElem]
   intro i j hi hj rV
   simp only[List.length_set]at hi hj
   have pD:(mB (gt (cC C) (cd (cC C) w.to:Nat)) w).to=(cC C)[cd (cC C) w.to].to:=by
    rw[xq (n:=w.to) hc.2 rfl,<-eC hc.1,hc.2]
   simp only[List.getElem_set]
   have uI:∀k (hk:k<(cC C).length),(if cd (cC C) w.to=k then mB (gt (cC C) (cd (cC C) w.to:Nat)) w else(cC C)[k]).to=(cC C)[k].to:=by
    intro k hk
    split
    ·rename_i e;subst e;exact pD
    ·rfl
   rw[uI i hi,uI j hj]
   exact Su i j hi hj rV
  ·rename_i hc
   rw[List.pairwise_append]
   refine⟨rX.sublist (List.take_sublist _ _),?_,?_⟩
   ·rw[List.singleton_append,List.pairwise_cons]
    refine⟨λy hy=>?_,rX.sublist (List.drop_sublist _ _)⟩
    obtain⟨i,hi,rfl⟩:=List.mem_iff_getElem.1 hy
    rw[List.getElem_drop]
    simp only[List.length_drop]at hi
    have h1:=mt (kl (cd (cC C) w.to) (by omega)).1 (by omega)
    have h2:¬((cC C)[cd (cC C) w.to].to=w.to):=λe=>hc ⟨by omega,by rw[eC (by omega)];exact e⟩
    rcases Nat.eq_zero_or_pos i with rfl|h3
    ·show w.to<(cC C)[cd (cC C) w.to].to;omega
    ·have:=Su (cd (cC C) w.to) (cd (cC C) w.to+i) (by omega) (by omega) (by omega);omega
   ·intro a ha b hb
    obtain⟨i,hi,rfl⟩:=List.mem_iff_getElem.1 ha
    rw[List.getElem_take]
    simp only[List.length_take]at hi
    have h1:=(kl i (by omega)).2 (by omega)
    rcases List.mem_append.1 hb with hb|hb
    ·rw[List.mem_singleton]at hb;subst hb;exact h1
    ·obtain⟨j,hj,rfl⟩:=List.mem_iff_getElem.1 hb
     rw[List.getElem_drop]
     simp only[List.length_drop]at hj
     exact Su i _ (by omega) (by omega) (by omega)
 ·rw[I0 hC',hf]
  unfold tM
  by_cases hc:cd (cC C) w.to<(cC C).length∧(gt (cC C) (cd (cC C) w.to:Nat)).to=w.to
  ·rw[if_pos hc]
   have hold:gt (cC C) (cd (cC C) w.to:Nat)∈cC C:=lg (by omega) (by omega)
   have ho:=(I0 hC).1 hold
   rw[hc.2]at ho
   have hX:kh (C.filter (λx=>x.to==w.to)++[w])=some (mB (gt (cC C) (cd (cC C) w.to:Nat)) w):=by rw[IZ,ho.2];rfl
   have nx:(mB (gt (cC C) (cd (cC C) w.to:Nat)) w).to=w.to:=xq hc.2 rfl
   constructor
   ·intro hx
    obtain⟨i,hi,rfl⟩:=List.mem_iff_getElem.1 hx
    rw[List.length_set]at hi
    rw[List.getElem_set]
    by_cases e:cd (cC C) w.to=i
    ·rw[if_pos e,nx,if_pos rfl]
     exact⟨hw,hX⟩
    ·rw[if_neg e]
     have dH:¬(w.to=(cC C)[i].to):=by
      rw[<-hc.2,eC hc.1]
      rcases Nat.lt_or_gt_of_ne e with h|h
      ·have:=Su _ _ hc.1 hi h;omega
      ·have:=Su _ _ hi hc.1 h;omega
     rw[if_neg dH,List.append_nil]
     exact(I0 hC).1 (List.getElem_mem hi)
   ·rintro⟨h1,h2⟩
    by_cases e:w.to=x.to
    ·rw[if_pos e,<-e,hX]at h2
     cases h2
     exact List.mem_set hc.1 _
    ·rw[if_neg e,List.append_nil]at h2
     have hx:=(I0 hC).2 ⟨h1,h2⟩
     obtain⟨i,hi,rfl⟩:=List.mem_iff_getElem.1 hx
     rw[List.mem_iff_getElem]
     refine⟨i,by simpa using hi,?_⟩
     rw[List.getElem_set,if_neg]
     rintro rfl
     rw[eC hi]at hc
     exact e hc.2.symm
  ·rw[if_neg hc]
   have Rt:∀y∈cC C,y.to≠w.to:=by
    intro y hy e
    obtain⟨i,hi,rfl⟩:=List.mem_iff_getElem.1 hy
    have h1:=mt (kl i hi).2 (by omega)
    have h2:cd (cC C) w.to<(cC C).length:=by omega
    have h3:=mt (kl _ h2).1 (by omega)
    have h4:¬((cC C)[cd (cC C) w.to].to=w.to):=λe'=>hc ⟨h2,by rw[eC h2];exact e'⟩
    rcases Nat.eq_or_lt_of_le (show cd (cC C) w.to<=i by
     rcases Nat.lt_or_ge i (cd (cC C) w.to)with h5|h5
     ·have:=(kl i hi).2 h5;omega
     ·exact h5)with h5|h5
    ·simp only[h5]at h4;exact h4 e
    ·have:=Su _ _ h2 hi h5;omega
   have dj:kh (C.filter λx=>x.to==w.to)=none:=by
    rcases Kt (v:=w.to) _ (C.filter λx=>x.to==w.to) rfl (λy hy=>by have:=List.mem_filter.1 hy;exact⟨by simpa using this.2,hC y this.1⟩)with⟨_,e1⟩|⟨b,e1,hb,_⟩
    ·exact e1
    ·exact absurd hb (Rt b ((I0 hC).2 ⟨by rw[hb];exact hw,by rw[hb];exact e1⟩))
   have iX:x∈(cC C).take (cd (cC C) w.to)++([w]++(cC C).drop (cd (cC C) w.to))↔x=w∨x∈cC C:=by
    conv=>rhs;rw[<-List.take_append_drop (cd (cC C) w.to) (cC C)]
    simp only[List.mem_append,List.mem_singleton]
    constructor
    ·rintro(h|h|h)
     ·exact .inr (.inl h)
     ·exact .inl h
     ·exact .inr (.inr h)
    ·rintro(h|h|h)
     ·exact .inr (.inl h)
     ·exact .inl h
     ·exact .inr (.inr h)
   rw[iX]
   constructor
   ·rintro(rfl|hx)
    ·rw[if_pos rfl,IZ,dj]
     exact⟨hw,rfl⟩
    ·rw[if_neg (λe=>Rt x hx e.symm),List.append_nil]
     exact(I0 hC).1 hx
   ·rintro⟨h1,h2⟩
    by_cases e:w.to=x.to
    ·rw[if_pos e,<-e,IZ,dj]at h2
     cases h2
     exact .inl rfl
    ·rw[if_neg e,List.append_nil]at h2
     exact .inr ((I0 hC).2 ⟨h1,h2⟩)
end Go.Proofs.YtjimmglpkndemaaGreatC

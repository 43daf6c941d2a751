/- What the small functions compute: words, nets, records, stores. Conditions: none. -/
import Derived.Test.YtjimmglpkndemaaGreatXGV
namespace Go.Proofs.YtjimmglpkndemaaGreatC
attribute [local irreducible] jp
open Int renaming reduceLE -> ak, reduceLT -> ap, reduceEq -> aq, reduceGT -> au, reduceGE -> av, reduceAdd -> aw, reduceSub -> ax, reduceMul -> ay, reduceNeg -> az
set_option linter.unusedVariables false
set_option linter.unusedSimpArgs false
theorem kL(p:Prop) [Decidable p](x y:Bool):(if p then some [bb x]else some [bb y])=some [bb (if p then x else y)]:=by by_cases h:p<;>simp[h]
def jr(a lo hi:Int):Bool:=decide (lo<=a)&&decide (a<=hi)
theorem bC{a lo hi:Int}:jr a lo hi=true↔lo<=a∧a<=hi:=by simp[jr]
theorem vl(a lo hi:Int):vi [ii a,ii lo,ii hi]=some [bb (jr a lo hi)]:=by
 rw[anK];simp(disch:=omega) only[↓pQ,pS,↓reduceIte,ak,ap,aq,au,av,aw,ax,ay,az,Lm,kL];unfold jr
 by_cases h:a>=lo<;>simp[h]<;>omega
theorem GW(a lo hi:Int):tw [ii a,ii lo,ii hi]=some [bb (jr a lo hi)]:=by
 rw[amg];simp(disch:=omega) only[↓pQ,pS,↓reduceIte,ak,ap,aq,au,av,aw,ax,ay,az,KG,kL];unfold jr
 by_cases h:a>=lo<;>simp[h]<;>omega
def nO(n:Int)(l:br):Bool:=jr n 1 6&&jr l.a 1 n&&jr l.b 1 n&&decide (l.a<l.b)&&jr l.cost 1 1000&&jr l.ae 0 2
theorem ao8(n a b c ar:Int):VH [ii n,ii a,ii b,ii c,ii ar]=some [bb (nO n ⟨a,b,c,ar⟩)]:=by
 rw[anM];simp(disch:=omega) only[↓pQ,pS,↓reduceIte,ak,ap,aq,au,av,aw,ax,ay,az,Ln,vl,kL];unfold nO
 grind
theorem ao9(n a b c ar:Int):TL [ii n,ii a,ii b,ii c,ii ar]=some [bb (nO n ⟨a,b,c,ar⟩)]:=by
 rw[ami];simp(disch:=omega) only[↓pQ,pS,↓reduceIte,ak,ap,aq,au,av,aw,ax,ay,az,KH,GW,kL];unfold nO
 grind
def ml(x y:br):Bool:=decide (x.a<y.a∨x.a=y.a∧(x.b<y.b∨x.b=y.b∧x.ae<y.ae))
theorem ao_(a b c d a' b' c' d':Int):AC [ii a,ii b,ii c,ii d,ii a',ii b',ii c',ii d']=some [bb (ml ⟨a,b,c,d⟩ ⟨a',b',c',d'⟩)]:=by
 rw[anO];simp(disch:=omega) only[↓pQ,pS,↓reduceIte,ak,ap,aq,au,av,aw,ax,ay,az,Lp,kL];unfold ml
 grind
theorem ao'(a b c d a' b' c' d':Int):TO [ii a,ii b,ii c,ii d,ii a',ii b',ii c',ii d']=some [bb (ml ⟨a,b,c,d⟩ ⟨a',b',c',d'⟩)]:=by
 rw[amk];simp(disch:=omega) only[↓pQ,pS,↓reduceIte,ak,ap,aq,au,av,aw,ax,ay,az,KI,kL];unfold ml
 grind
def rB(x y:bO):Bool:=decide (x.key<y.key∨x.key=y.key∧x.owner<y.owner)
theorem apa(a b c a' b' c':Int)(d d':Bool):AD [ii a,ii b,ii c,bb d,ii a',ii b',ii c',bb d']=some [bb (rB ⟨a,b,c,d⟩ ⟨a',b',c',d'⟩)]:=by
 rw[anQ];simp(disch:=omega) only[↓pQ,pS,↓reduceIte,ak,ap,aq,au,av,aw,ax,ay,az,Lq,kL];unfold rB
 grind
theorem apb(a b c a' b' c':Int)(d d':Bool):TR [ii a,ii b,ii c,bb d,ii a',ii b',ii c',bb d']=some [bb (rB ⟨a,b,c,d⟩ ⟨a',b',c',d'⟩)]:=by
 rw[amm];simp(disch:=omega) only[↓pQ,pS,↓reduceIte,ak,ap,aq,au,av,aw,ax,ay,az,KJ,kL];unfold rB
 grind
def eI{α:Type} [Inhabited α](ok:α->Bool)(lt:α->α->Bool)(l:List α):Bool:=
 nA l.length λi=>ok (gt l i)&&(!decide ((i:Int)>0)||lt (gt l (i-1:Int)) (gt l i))
def wi(n:Int)(t:bO):Bool:=jr t.owner 1 n&&jr t.key 1 9&&jr t.cost 1 1000
def rC(x:Net):Bool:=jr x.n 1 6&&decide (x.ai.length<=12)&&decide (x.aB.length<=4)&&eI (nO x.n) ml x.ai&&eI (wi x.n) rB x.aB
theorem YC(n:Int)(ls:List br)(ts:List bO)(h1:ls.length<=1048576)(h2:ts.length<=1048576):JO [ii n,.l (ls.map df),.l (ts.map dH)]=some [bb (rC ⟨n,ls,ts⟩)]:=by
 rw[amo];simp(disch:=omega) only[↓pQ,pS,↓reduceIte,ak,ap,aq,au,av,aw,ax,ay,az,KK,KL,KM,GW]
 rw[show iter _ _ _=(some [bb (eI (nO n) ml ls&&eI (wi n) rB ts)]:Option (List T)) from ?_]
 ·simp(disch:=omega) only[↓pQ,pS,↓reduceIte,ak,ap,aq,au,av,aw,ax,ay,az,KK,KL,kL];unfold rC;grind
 refine(Au ls.length (λi=>[bb false,ii i]) (λi=>nO n (gt ls i)&&(!decide ((i:Int)>0)||ml (gt ls (i-1:Int)) (gt ls i))) (g_:=some [bb false]) (jy:=some [bb (eI (wi n) rB ts)]) ?_ ?_ (by unfold rounds;omega)).trans ?_
 ·intro i hi s
  simp(disch:=omega) only[↓pQ,pS,↓reduceIte,ak,ap,aq,au,av,aw,ax,ay,az,KK,KL,hi,ao9,ao']
  grind
 ·intro s
  simp(disch:=omega) only[↓pQ,pS,↓reduceIte,ak,ap,aq,au,av,aw,ax,ay,az,KK,KL,]
  refine(Au ts.length (λi=>[bb false,ii i]) (λi=>wi n (gt ts i)&&(!decide ((i:Int)>0)||rB (gt ts (i-1:Int)) (gt ts i))) (g_:=some [bb false]) (jy:=some [bb true]) ?_ ?_ (by unfold rounds;omega)).trans ?_
  ·intro i hi s
   simp(disch:=omega) only[↓pQ,pS,↓reduceIte,ak,ap,aq,au,av,aw,ax,ay,az,KK,KL,hi,GW,apb]
   unfold wi
   grind
  ·intro s
   simp(disch:=omega) only[↓pQ,pS,↓reduceIte,ak,ap,aq,au,av,aw,ax,ay,az,KK,KL,]
  ·rw[kL];unfold eI;simp
 ·rw[kL];unfold eI;simp
theorem YD(n:Int)(ls:List br)(ts:List bO)(h1:ls.length<=1048576)(h2:ts.length<=1048576):J1 [ii n,.l (ls.map df),.l (ts.map dH)]=some [bb (rC ⟨n,ls,ts⟩)]:=by
 rw[anS];simp(disch:=omega) only[↓pQ,pS,↓reduceIte,ak,ap,aq,au,av,aw,ax,ay,az,Lr,Ls,Lt,vl]
 rw[show iter _ _ _=(some [bb (eI (nO n) ml ls&&eI (wi n) rB ts)]:Option (List T)) from ?_]
 ·simp(disch:=omega) only[↓pQ,pS,↓reduceIte,ak,ap,aq,au,av,aw,ax,ay,az,Lr,Ls,kL];unfold rC;grind
 refine(Au ls.length (λi=>[bb false,ii i]) (λi=>nO n (gt ls i)&&(!decide ((i:Int)>0)||ml (gt ls (i-1:Int)) (gt ls i))) (g_:=some [bb false]) (jy:=some [bb (eI (wi n) rB ts)]) ?_ ?_ (by unfold rounds;omega)).trans ?_
 ·intro i hi s
  simp(disch:=omega) only[↓pQ,pS,↓reduceIte,ak,ap,aq,au,av,aw,ax,ay,az,Lr,Ls,hi,ao8,ao_]
  grind
 ·intro s
  simp(disch:=omega) only[↓pQ,pS,↓reduceIte,ak,ap,aq,au,av,aw,ax,ay,az,Lr,Ls,]
  refine(Au ts.length (λi=>[bb false,ii i]) (λi=>wi n (gt ts i)&&(!decide ((i:Int)>0)||rB (gt ts (i-1:Int)) (gt ts i))) (g_:=some [bb false]) (jy:=some [bb true]) ?_ ?_ (by unfold rounds;omega)).trans ?_
  ·intro i hi s
   simp(disch:=omega) only[↓pQ,pS,↓reduceIte,ak,ap,aq,au,av,aw,ax,ay,az,Lr,Ls,hi,vl,apa]
   unfold wi
   grind
  ·intro s
   simp(disch:=omega) only[↓pQ,pS,↓reduceIte,ak,ap,aq,au,av,aw,ax,ay,az,Lr,Ls,]
  ·rw[kL];unfold eI;simp
 ·rw[kL];unfold eI;simp
def iu(a b ar:Int)(l:br):Bool:=l.ae==ar&&(l.a==a&&l.b==b||l.a==b&&l.b==a)
theorem L6{α:Type}(p:α->Bool)(l:List α):(if eF p l<0 then some [ii (-1)]else some [ii (eF p l)])=some [ii (eF p l)]:=by
 have h:=ajR p l
 by_cases h':eF p l<0
 ·rw[if_pos h',show eF p l=-1 by omega]
 ·rw[if_neg h']
theorem L7(t0 t2:T)(ls:List br)(a b ar:Int)(h1:ls.length<=1048576):EB [t0,.l (ls.map df),t2,ii a,ii b,ii ar]=some [ii (eF (iu a b ar) ls)]:=by
 rw[anV];simp(disch:=omega) only[↓pQ,pS,↓reduceIte,ak,ap,aq,au,av,aw,ax,ay,az,jB_,Lv]
 refine(JH ls (λi=>[ii 0,ii i]) (iu a b ar) (λi=>some [ii i]) (kY:=some [ii (-1)]) ?_ ?_ (by unfold rounds;omega)).trans (L6 _ _)
 ·intro i hi s
  simp(disch:=omega) only[↓pQ,pS,↓reduceIte,ak,ap,aq,au,av,aw,ax,ay,az,jB_,hi]
  unfold iu
  grind
 ·intro s
  simp(disch:=omega) only[↓pQ,pS,↓reduceIte,ak,ap,aq,au,av,aw,ax,ay,az,jB_,]
def mR(ls:List br)(a b ar:Int):Int:=if eF (iu a b ar) ls<0 then 0 else(gt ls (eF (iu a b ar) ls)).cost
theorem Om(t0 t2:T)(ls:List br)(a b ar:Int)(h1:ls.length<=1048576):Aw [t0,.l (ls.map df),t2,ii a,ii b,ii ar]=some [ii (mR ls a b ar)]:=by
 rw[amq];simp(disch:=omega) only[↓pQ,pS,↓reduceIte,ak,ap,aq,au,av,aw,ax,ay,az,jA_,KN]
 refine(JH ls (λi=>[ii 0,ii i]) (iu a b ar) (λi=>some [ii (gt ls i).cost]) (kY:=some [ii 0]) ?_ ?_ (by unfold rounds;omega)).trans ?_
 ·intro i hi s
  simp(disch:=omega) only[↓pQ,pS,↓reduceIte,ak,ap,aq,au,av,aw,ax,ay,az,jA_,hi]
  unfold iu
  grind
 ·intro s
  simp(disch:=omega) only[↓pQ,pS,↓reduceIte,ak,ap,aq,au,av,aw,ax,ay,az,jA_,]
 ·unfold mR
  split<;>rfl
theorem apc(t0 t2:T)(ls:List br)(a b ar:Int)(h1:ls.length<=1048576):Wo [t0,.l (ls.map df),t2,ii a,ii b,ii ar]=some [ii (mR ls a b ar)]:=by
 have h:=tv (iu a b ar) ls
 rw[aoj];simp(disch:=omega) only[↓pQ,pS,↓reduceIte,ak,ap,aq,au,av,aw,ax,ay,az,LG,L7]
 unfold mR
 grind
theorem L8{ls:List br}{n:Int}(h:eI (nO n) ml ls=true)(a b ar:Int):mR ls a b ar=0↔eF (iu a b ar) ls<0:=by
 unfold mR
 by_cases h':eF (iu a b ar) ls<0
 ·simp[h']
 ·rw[if_neg h']
  have hl:=tv (iu a b ar) ls
  have:=cq.1 h (eF (iu a b ar) ls).toNat (by omega)
  rw[show(((eF (iu a b ar) ls).toNat:Nat):Int)=eF (iu a b ar) ls by omega]at this
  simp only[bA,nO,bC]at this
  omega
def xI(ok:Int->Int->Bool)(l:List Int):Bool:=
 nA (l.length/2) λk=>ok (gt l (2*k:Int)) (gt l (2*k+1:Int))&&(!decide ((k:Int)>0)||decide (gt l (2*k-2:Int)<gt l (2*k:Int)∨gt l (2*k-2:Int)=gt l (2*k:Int)∧gt l (2*k-1:Int)<gt l (2*k+1:Int)))
theorem apd(id aQ n:Int)(ls:List br)(t2 t3:T)(hd:List Int)(h1:ls.length<=1048576)(h2:hd.length<=1048576):
  VV [ii id,ii aQ,ii n,.l (ls.map df),t2,.l (hd.map aG),t3]=some [bb (decide (hd.length%2=0)&&xI (λv a=>decide (0<=eF (iu id v a) ls)) hd)]:=by
 rw[anX];simp(disch:=omega) only[↓pQ,pS,↓reduceIte,ak,ap,aq,au,av,aw,ax,ay,az,q8_,Lw]
 have hm:=TA hd.length
 by_cases he:hd.length%2=0
 ·simp only[hm,he,JG,not_true_eq_false,if_false]
  refine(BX (hd.length/2) (λk=>[bb false,ii (2*k)]) (λk=>decide (0<=eF (iu id (gt hd (2*k:Int)) (gt hd (2*k+1:Int))) ls)&&(!decide ((k:Int)>0)||decide (gt hd (2*k-2:Int)<gt hd (2*k:Int)∨gt hd (2*k-2:Int)=gt hd (2*k:Int)∧gt hd (2*k-1:Int)<gt hd (2*k+1:Int)))) (g_:=some [bb false]) (jy:=some [bb true]) rfl (ek (by omega)) ?_ ?_).trans ?_
  ·intro i hi s
   have a_:2*(i:Int)<hd.length:=by omega
   simp(disch:=omega) only[↓pQ,pS,↓reduceIte,ak,ap,aq,au,av,aw,ax,ay,az,q8_,a_,L7,Int.mul_add]
   grind
  ·intro s
   have a_:¬(2*((hd.length/2:Nat):Int)<hd.length):=by omega
   simp(disch:=omega) only[↓pQ,pS,↓reduceIte,ak,ap,aq,au,av,aw,ax,ay,az,q8_,a_]
  ·rw[kL];unfold xI;simp
 ·have:¬((hd.length%2:Nat):Int)=0:=by omega
  simp only[hm,this,not_false_eq_true,if_true,he,decide_false,Bool.false_and]
theorem ape(id aQ n:Int)(ls:List br)(t2 t3:T)(hd:List Int)(h1:ls.length<=1048576)(h2:hd.length<=1048576):
  TZ [ii id,ii aQ,ii n,.l (ls.map df),t2,.l (hd.map aG),t3]=some [bb (decide (hd.length%2=0)&&(decide (hd.length<=60)&&xI (λv a=>!decide (mR ls id v a=0)) hd))]:=by
 rw[ams];simp(disch:=omega) only[↓pQ,pS,↓reduceIte,ak,ap,aq,au,av,aw,ax,ay,az,u2_,KO]
 have hm:=TA hd.length
 by_cases he:hd.length%2=0
 ·have h9:¬((0:Int)=1):=by decide
  simp only[hm,he,JG,h9,if_false]
  by_cases h6:hd.length<=60
  ·have h7:¬((hd.length:Int)>60):=by omega
   simp only[h7,if_false]
   refine(BX (hd.length/2) (λk=>[bb false,ii (2*k)]) (λk=>!decide (mR ls id (gt hd (2*k:Int)) (gt hd (2*k+1:Int))=0)&&(!decide ((k:Int)>0)||decide (gt hd (2*k-2:Int)<gt hd (2*k:Int)∨gt hd (2*k-2:Int)=gt hd (2*k:Int)∧gt hd (2*k-1:Int)<gt hd (2*k+1:Int)))) (g_:=some [bb false]) (jy:=some [bb true]) rfl (ek (by omega)) ?_ ?_).trans ?_
   ·intro i hi s
    have a_:2*(i:Int)<hd.length:=by omega
    simp(disch:=omega) only[↓pQ,pS,↓reduceIte,ak,ap,aq,au,av,aw,ax,ay,az,u2_,a_,Om,Int.mul_add]
    grind
   ·intro s
    have a_:¬(2*((hd.length/2:Nat):Int)<hd.length):=by omega
    simp(disch:=omega) only[↓pQ,pS,↓reduceIte,ak,ap,aq,au,av,aw,ax,ay,az,u2_,a_]
   ·rw[kL];unfold xI;simp[h6]
  ·have h7:((hd.length:Int)>60):=by omega
   simp[h7,h6]
 ·have h8:((hd.length%2:Nat):Int)=1:=by omega
  simp only[hm,h8,if_true,he,decide_false,Bool.false_and]
def vm(o:Int)(l:List cn):Bool:=
 nA l.length λi=>jr (gt l i).to 1 6&& !decide ((gt l i).to=o)&&jr (gt l i).cost 1 1000&&(!decide ((i:Int)>0)||decide ((gt l (i-1:Int)).to<(gt l i).to))
theorem apf(t0 t1:T)(o:Int)(t3 t4:T)(l:List cn)(t6 t7:T)(h:l.length<=1048576):VY [t0,t1,ii o,t3,t4,.l (l.map fk),t6,t7]=some [bb (vm o l)]:=by
 rw[anZ];simp(disch:=omega) only[↓pQ,pS,↓reduceIte,ak,ap,aq,au,av,aw,ax,ay,az,jz_,Lx]
 refine(BX l.length (λi=>[bb false,ii i]) (λi=>jr (gt l i).to 1 6&& !decide ((gt l i).to=o)&&jr (gt l i).cost 1 1000&&(!decide ((i:Int)>0)||decide ((gt l (i-1:Int)).to<(gt l i).to))) (g_:=some [bb false]) (jy:=some [bb true]) rfl (ek h) ?_ ?_).trans (kL _ _ _ |>.trans (by unfold vm;simp))
 ·intro i hi s
  simp(disch:=omega) only[↓pQ,pS,↓reduceIte,ak,ap,aq,au,av,aw,ax,ay,az,jz_,hi,vl]
  grind
 ·intro s
  simp(disch:=omega) only[↓pQ,pS,↓reduceIte,ak,ap,aq,au,av,aw,ax,ay,az,jz_,]
theorem apg(t0 t1:T)(o:Int)(t3 t4:T)(l:List cn)(t6 t7:T)(h:l.length<=1048576):T2 [t0,t1,ii o,t3,t4,.l (l.map fk),t6,t7]=some [bb (vm o l)]:=by
 rw[amu];simp(disch:=omega) only[↓pQ,pS,↓reduceIte,ak,ap,aq,au,av,aw,ax,ay,az,qS_,KQ]
 refine(BX l.length (λi=>[bb false,ii i]) (λi=>jr (gt l i).to 1 6&& !decide ((gt l i).to=o)&&jr (gt l i).cost 1 1000&&(!decide ((i:Int)>0)||decide ((gt l (i-1:Int)).to<(gt l i).to))) (g_:=some [bb false]) (jy:=some [bb true]) rfl (ek h) ?_ ?_).trans (kL _ _ _ |>.trans (by unfold vm;simp))
 ·intro i hi s
  simp(disch:=omega) only[↓pQ,pS,↓reduceIte,ak,ap,aq,au,av,aw,ax,ay,az,qS_,hi,GW]
  grind
 ·intro s
  simp(disch:=omega) only[↓pQ,pS,↓reduceIte,ak,ap,aq,au,av,aw,ax,ay,az,qS_,]
def fN(r:ah):Bool:=
 jr r.owner 1 6&&jr r.seq 1 100000&&
 if r.kind=1 then jr r.ae 0 2&&decide (r.key=0)&&vm r.owner r.bd&&decide (r.cost=0)&& !r.fT
 else if r.kind=2 then jr r.ae 0 2&&jr r.key 1 6&&decide ((r.bd.length:Int)=0)&&jr r.cost 0 60000&& !r.fT
 else if r.kind=3 then decide (r.ae=9)&&jr r.key 1 9&&decide ((r.bd.length:Int)=0)&&(jr r.cost 1 1000||decide (r.cost=60000))
 else false
theorem aph(a k o y s:Int)(l:List cn)(c:Int)(f:Bool)(h:l.length<=1048576):V1 [ii a,ii k,ii o,ii y,ii s,.l (l.map fk),ii c,bb f]=some [bb (fN ⟨a,k,o,y,s,l,c,f⟩)]:=by
 rw[an1];simp(disch:=omega) only[↓pQ,pS,↓reduceIte,ak,ap,aq,au,av,aw,ax,ay,az,Ly,vl,apf,kL];unfold fN
 grind
theorem api(a k o y s:Int)(l:List cn)(c:Int)(f:Bool)(h:l.length<=1048576):T5 [ii a,ii k,ii o,ii y,ii s,.l (l.map fk),ii c,bb f]=some [bb (fN ⟨a,k,o,y,s,l,c,f⟩)]:=by
 rw[amw];simp(disch:=omega) only[↓pQ,pS,↓reduceIte,ak,ap,aq,au,av,aw,ax,ay,az,KR,GW,apg,kL];unfold fN
 grind
def dX(a b:ah):Bool:=decide (a.ae=b.ae)&&(decide (a.kind=b.kind)&&(decide (a.owner=b.owner)&&decide (a.key=b.key)))
theorem sameKey_iff{a b:ah}:dX a b=true↔a.ae=b.ae∧a.kind=b.kind∧a.owner=b.owner∧a.key=b.key:=by simp[dX]
theorem L9(a k o y:Int)(s:T)(l c f:T)(a' k' o' y':Int)(s' l' c' f':T):EE [ii a,ii k,ii o,ii y,s,l,c,f,ii a',ii k',ii o',ii y',s',l',c',f']=some [bb (dX ⟨a,k,o,y,0,[],0,false⟩ ⟨a',k',o',y',0,[],0,false⟩)]:=by
 rw[aon];simp(disch:=omega) only[↓pQ,pS,↓reduceIte,ak,ap,aq,au,av,aw,ax,ay,az,LK,kL];unfold dX
 grind
theorem L_(a k o y:Int)(s:T)(l c f:T)(a' k' o' y':Int)(s' l' c' f':T):Ay [ii a,ii k,ii o,ii y,s,l,c,f,ii a',ii k',ii o',ii y',s',l',c',f']=some [bb (dX ⟨a,k,o,y,0,[],0,false⟩ ⟨a',k',o',y',0,[],0,false⟩)]:=by
 rw[amW];simp(disch:=omega) only[↓pQ,pS,↓reduceIte,ak,ap,aq,au,av,aw,ax,ay,az,K4,kL];unfold dX
 grind
theorem apj(a b:ah):dX ⟨a.ae,a.kind,a.owner,a.key,0,[],0,false⟩ ⟨b.ae,b.kind,b.owner,b.key,0,[],0,false⟩=dX a b:=rfl
def eT(a b:ah):Bool:=decide (a.ae<b.ae∨a.ae=b.ae∧(a.kind<b.kind∨a.kind=b.kind∧(a.owner<b.owner∨a.owner=b.owner∧a.key<b.key)))
theorem oL{a b:ah}:eT a b=true↔a.ae<b.ae∨a.ae=b.ae∧(a.kind<b.kind∨a.kind=b.kind∧(a.owner<b.owner∨a.owner=b.owner∧a.key<b.key)):=by simp[eT]
theorem L'(a k o y:Int)(s:T)(l c f:T)(a' k' o' y':Int)(s' l' c' f':T):J4 [ii a,ii k,ii o,ii y,s,l,c,f,ii a',ii k',ii o',ii y',s',l',c',f']=some [bb (eT ⟨a,k,o,y,0,[],0,false⟩ ⟨a',k',o',y',0,[],0,false⟩)]:=by
 rw[an3];simp(disch:=omega) only[↓pQ,pS,↓reduceIte,ak,ap,aq,au,av,aw,ax,ay,az,Lz,kL];unfold eT
 grind
theorem Ma(a k o y:Int)(s:T)(l c f:T)(a' k' o' y':Int)(s' l' c' f':T):JP [ii a,ii k,ii o,ii y,s,l,c,f,ii a',ii k',ii o',ii y',s',l',c',f']=some [bb (eT ⟨a,k,o,y,0,[],0,false⟩ ⟨a',k',o',y',0,[],0,false⟩)]:=by
 rw[amy];simp(disch:=omega) only[↓pQ,pS,↓reduceIte,ak,ap,aq,au,av,aw,ax,ay,az,KS,kL];unfold eT
 grind
theorem YE(a b:ah):eT ⟨a.ae,a.kind,a.owner,a.key,0,[],0,false⟩ ⟨b.ae,b.kind,b.owner,b.key,0,[],0,false⟩=eT a b:=rfl
def Fa(a b:List cn):Bool:=decide (a.length=b.length)&&nA a.length λi=>decide ((gt a i).to=(gt b i).to)&&decide ((gt a i).cost=(gt b i).cost)
def yE(a b:ah):Bool:=dX a b&&decide (a.cost=b.cost)&&(a.fT==b.fT)&&Fa a.bd b.bd
theorem YF(a k o y s:Int)(l:List cn)(c:Int)(f:Bool)(a' k' o' y' s':Int)(l':List cn)(c':Int)(f':Bool)(h:l.length<=1048576):Xc [ii a,ii k,ii o,ii y,ii s,.l (l.map fk),ii c,bb f,ii a',ii k',ii o',ii y',ii s',.l (l'.map fk),ii c',bb f']=some [bb (yE ⟨a,k,o,y,s,l,c,f⟩ ⟨a',k',o',y',s',l',c',f'⟩)]:=by
 rw[aoV];simp(disch:=omega) only[↓pQ,pS,↓reduceIte,ak,ap,aq,au,av,aw,ax,ay,az,Ol,L0,L9]
 by_cases hl:(l.length:Int)=l'.length
 ·rw[show iter _ _ _=(some [bb (Fa l l')]:Option (List T)) from ?_]
  ·rw[show dX ⟨a,k,o,y,0,[],0,false⟩ ⟨a',k',o',y',0,[],0,false⟩=dX ⟨a,k,o,y,s,l,c,f⟩ ⟨a',k',o',y',s',l',c',f'⟩ from rfl]
   simp(disch:=omega) only[↓pQ,pS,↓reduceIte,ak,ap,aq,au,av,aw,ax,ay,az,Ol,kL,hl];unfold yE;grind
  refine(BX l.length (λi=>[bb false,ii i]) (λi=>decide ((gt l i).to=(gt l' i).to)&&decide ((gt l i).cost=(gt l' i).cost)) (g_:=some [bb false]) (jy:=some [bb true]) rfl (ek h) ?_ ?_).trans (kL _ _ _ |>.trans (by unfold Fa;simp;omega))
  ·intro i hi s
   simp(disch:=omega) only[↓pQ,pS,↓reduceIte,ak,ap,aq,au,av,aw,ax,ay,az,Ol,hi]
   grind
  ·intro s
   simp(disch:=omega) only[↓pQ,pS,↓reduceIte,ak,ap,aq,au,av,aw,ax,ay,az,Ol,]
 ·rw[show dX ⟨a,k,o,y,0,[],0,false⟩ ⟨a',k',o',y',0,[],0,false⟩=dX ⟨a,k,o,y,s,l,c,f⟩ ⟨a',k',o',y',s',l',c',f'⟩ from rfl]
  have:Fa l l'=false:=by unfold Fa;simp;omega
  simp(disch:=omega) only[↓pQ,pS,↓reduceIte,ak,ap,aq,au,av,aw,ax,ay,az,Ol,kL,hl,not_false_eq_true];unfold yE;grind
theorem YG(a k o y s:Int)(l:List cn)(c:Int)(f:Bool)(a' k' o' y' s':Int)(l':List cn)(c':Int)(f':Bool)(h:l.length<=1048576):Vl [ii a,ii k,ii o,ii y,ii s,.l (l.map fk),ii c,bb f,ii a',ii k',ii o',ii y',ii s',.l (l'.map fk),ii c',bb f']=some [bb (yE ⟨a,k,o,y,s,l,c,f⟩ ⟨a',k',o',y',s',l',c',f'⟩)]:=by
 rw[anx];simp(disch:=omega) only[↓pQ,pS,↓reduceIte,ak,ap,aq,au,av,aw,ax,ay,az,Oh,Lk,L_]
 by_cases hl:(l.length:Int)=l'.length
 ·rw[show iter _ _ _=(some [bb (Fa l l')]:Option (List T)) from ?_]
  ·rw[show dX ⟨a,k,o,y,0,[],0,false⟩ ⟨a',k',o',y',0,[],0,false⟩=dX ⟨a,k,o,y,s,l,c,f⟩ ⟨a',k',o',y',s',l',c',f'⟩ from rfl]
   simp(disch:=omega) only[↓pQ,pS,↓reduceIte,ak,ap,aq,au,av,aw,ax,ay,az,Oh,kL,hl];unfold yE;grind
  refine(BX l.length (λi=>[bb false,ii i]) (λi=>decide ((gt l i).to=(gt l' i).to)&&decide ((gt l i).cost=(gt l' i).cost)) (g_:=some [bb false]) (jy:=some [bb true]) rfl (ek h) ?_ ?_).trans (kL _ _ _ |>.trans (by unfold Fa;simp;omega))
  ·intro i hi s
   simp(disch:=omega) only[↓pQ,pS,↓reduceIte,ak,ap,aq,au,av,aw,ax,ay,az,Oh,hi]
   grind
  ·intro s
   simp(disch:=omega) only[↓pQ,pS,↓reduceIte,ak,ap,aq,au,av,aw,ax,ay,az,Oh,]
 ·rw[show dX ⟨a,k,o,y,0,[],0,false⟩ ⟨a',k',o',y',0,[],0,false⟩=dX ⟨a,k,o,y,s,l,c,f⟩ ⟨a',k',o',y',s',l',c',f'⟩ from rfl]
  have:Fa l l'=false:=by unfold Fa;simp;omega
  simp(disch:=omega) only[↓pQ,pS,↓reduceIte,ak,ap,aq,au,av,aw,ax,ay,az,Oh,kL,hl,not_false_eq_true];unfold yE;grind
def eJ(s:List ah):Bool:=decide (s.length<=150)&&eI fN eT s
def bI(s:List ah):Prop:=∀r∈s,r.bd.length<=1048576
theorem bI.gt{s:List ah}(h:bI s){n:Int}(h0:0<=n)(h1:n<s.length):(Go.Proofs.YtjimmglpkndemaaGreatC.gt s n).bd.length<=1048576:=h _ (j_ h0 h1)
theorem Mb{s:List ah}(h:bz nz s<=1048576):bI s:=λr hr=>by
 have h1:=afR (f:=nz) hr
 have h2:=D_ (f:=Jy) r.bd
 have h3:nz r=bz Jy r.bd:=rfl
 omega
theorem YH(s:List ah)(h:s.length<=1048576)(hn:bI s):J5 [.l (s.map aC)]=some [bb (eJ s)]:=by
 rw[an5];simp(disch:=omega) only[↓pQ,pS,↓reduceIte,ak,ap,aq,au,av,aw,ax,ay,az,qZ_,LA]
 refine(BX s.length (λi=>[bb false,ii i]) (λi=>fN (gt s i)&&(!decide ((i:Int)>0)||eT (gt s (i-1:Int)) (gt s i))) (g_:=some [bb false]) (jy:=some [bb (decide (s.length<=150))]) rfl (ek h) ?_ ?_).trans (kL _ _ _ |>.trans (by unfold eJ eI;grind))
 ·intro i hi s1
  have:=hn.gt (n:=i) (by omega) hi
  simp(disch:=omega) only[↓pQ,pS,↓reduceIte,ak,ap,aq,au,av,aw,ax,ay,az,qZ_,hi,aph,L',YE]
  grind
 ·intro s1
  simp(disch:=omega) only[↓pQ,pS,↓reduceIte,ak,ap,aq,au,av,aw,ax,ay,az,qZ_,]
  simp;omega
theorem Fb(s:List ah)(h:s.length<=1048576)(hn:bI s):Ax [.l (s.map aC)]=some [bb (eJ s)]:=by
 rw[amA];simp(disch:=omega) only[↓pQ,pS,↓reduceIte,ak,ap,aq,au,av,aw,ax,ay,az,qL_,KT]
 by_cases h1:s.length<=150
 ·have h2:¬((s.length:Int)>150):=by omega
  simp only[h2,if_false]
  refine(BX s.length (λi=>[bb false,ii i]) (λi=>fN (gt s i)&&(!decide ((i:Int)>0)||eT (gt s (i-1:Int)) (gt s i))) (g_:=some [bb false]) (jy:=some [bb true]) rfl (ek h) ?_ ?_).trans (kL _ _ _ |>.trans (by unfold eJ eI;grind))
  ·intro i hi s1
   have:=hn.gt (n:=i) (by omega) hi
   simp(disch:=omega) only[↓pQ,pS,↓reduceIte,ak,ap,aq,au,av,aw,ax,ay,az,qL_,hi,api,Ma,YE]
   grind
  ·intro s1
   simp(disch:=omega) only[↓pQ,pS,↓reduceIte,ak,ap,aq,au,av,aw,ax,ay,az,qL_,]
 ·have h2:((s.length:Int)>150):=by omega
  unfold eJ
  simp[h2,h1]
theorem YI(f:Nat->Int):∀(n:Nat),(∀k,k+1<n->f k<f (k+1))->∀k,k<n->f 0+k<=f k
 |n,h,0,_=>by simp
 |n,h,k+1,hk=>by
  have:=YI f n h k (by omega)
  have:=h k hk
  omega
theorem YJ{n:Int}{ls:List br}(h:eI (nO n) ml ls=true){id:Int}{hd:List Int}(hp:xI (λv a=>decide (0<=eF (iu id v a) ls)) hd=true):hd.length/2<=18:=by
 have hk:=λk hk=>cq.1 hp k hk
 have hj:∀k,k<hd.length/2->1<=gt hd (2*k:Int)∧gt hd (2*k:Int)<=6∧0<=gt hd (2*k+1:Int)∧gt hd (2*k+1:Int)<=2:=by
  intro k lp
  have h1:=hk k lp
  simp only[bA,decide_eq_true_eq]at h1
  have h2:=t_ _ _ h1.1
  have h3:=tv (iu id (gt hd (2*k:Int)) (gt hd (2*k+1:Int))) ls
  have h4:=cq.1 h (eF (iu id (gt hd (2*k:Int)) (gt hd (2*k+1:Int))) ls).toNat (by omega)
  rw[show(((eF (iu id (gt hd (2*k:Int)) (gt hd (2*k+1:Int))) ls).toNat:Nat):Int)=eF (iu id (gt hd (2*k:Int)) (gt hd (2*k+1:Int))) ls by omega]at h4
  simp only[iu,bA,Bool.or_eq_true,beq_iff_eq]at h2
  simp only[bA,nO,bC,decide_eq_true_eq]at h4
  omega
 rcases Nat.eq_zero_or_pos (hd.length/2)with h0|h0
 ·omega
 have:=YI (λk=>3*gt hd (2*k:Int)+gt hd (2*k+1:Int)) (hd.length/2) (λk lp=>?_) (hd.length/2-1) (by omega)
 ·have h1:=hj 0 (by omega)
  have h2:=hj (hd.length/2-1) (by omega)
  omega
 ·have h1:=hk (k+1) lp
  have h2:=hj k (by omega)
  have h3:=hj (k+1) lp
  simp only[bA,Bool.or_eq_true,decide_eq_true_eq,Bool.not_eq_true',decide_eq_false_iff_not]at h1
  simp only[JE,JF,show(2:Int)*((k:Int)+1)=2*k+2 by omega]at h1 h3⊢
  simp only[show(2:Int)*k+2-2=2*k by omega,show(2:Int)*k+2-1=2*k+1 by omega]at h1
  omega
def l8(x:Self):Bool:=rC x.net&&(jr x.id 1 x.net.n&&(jr x.aQ 0 90&&(decide (x.heard.length%2=0)&&xI (λv a=>decide (0<=eF (iu x.id v a) x.net.ai)) x.heard&&eJ x.store)))
theorem Mc(id aQ n:Int)(ls:List br)(ts:List bO)(hd:List Int)(st:List ah)(h1:ls.length<=1048576)(h2:ts.length<=1048576)(h3:hd.length<=1048576)(h4:st.length<=1048576)(h5:bI st):
  EC [ii id,ii aQ,ii n,.l (ls.map df),.l (ts.map dH),.l (hd.map aG),.l (st.map aC)]=some [bb (l8 ⟨id,aQ,⟨n,ls,ts⟩,hd,st⟩)]:=by
 rw[an7];simp(disch:=omega) only[↓pQ,pS,↓reduceIte,ak,ap,aq,au,av,aw,ax,ay,az,LB,YD,vl,apd,YH _ h4 h5,kL];unfold l8
 grind
theorem Md(id aQ n:Int)(ls:List br)(ts:List bO)(hd:List Int)(st:List ah)(h1:ls.length<=1048576)(h2:ts.length<=1048576)(h3:hd.length<=1048576)(h4:st.length<=1048576)(h5:bI st):
  Eu [ii id,ii aQ,ii n,.l (ls.map df),.l (ts.map dH),.l (hd.map aG),.l (st.map aC)]=some [bb (l8 ⟨id,aQ,⟨n,ls,ts⟩,hd,st⟩)]:=by
 rw[amC];simp(disch:=omega) only[↓pQ,pS,↓reduceIte,ak,ap,aq,au,av,aw,ax,ay,az,KU,YC,GW,ape,Fb _ h4 h5,kL]
 have key:rC ⟨n,ls,ts⟩=true->(decide (hd.length<=60)&&xI (λv a=>!decide (mR ls id v a=0)) hd)=xI (λv a=>decide (0<=eF (iu id v a) ls)) hd:=by
  intro hn
  have hl:eI (nO n) ml ls=true:=by simp only[rC,bA]at hn;exact hn.1.2
  have he:(λv a=>!decide (mR ls id v a=0))=λv a=>decide (0<=eF (iu id v a) ls):=by
   funext v a
   have:=L8 hl id v a
   by_cases hc:mR ls id v a=0<;>simp[hc]<;>omega
  rw[he]
  cases hp:xI (λv a=>decide (0<=eF (iu id v a) ls)) hd with
  |false=>simp
  |true=>have:=YJ hl hp;simp;omega
 unfold l8
 grind
def Me(a b:List Int):Bool:=decide ((a.length:Int)=b.length)&&nA a.length λi=>decide (gt a i=gt b i)
theorem apk{a b:List Int}:Me a b=true↔a=b:=by
 simp only[Me,bA,decide_eq_true_eq,cq]
 constructor
 ·rintro⟨h1,h2⟩
  refine List.ext_getElem (by omega) λi hi hj=>?_
  have:=h2 i hi
  rwa[eS hi,eS hj]at this
 ·rintro rfl
  exact⟨rfl,λ_ _=>rfl⟩
def Mf(c:List Int)(e:fR):List Int:=if e.both=true then c++[e.node,e.ae]else c
def yF(l:List fR):List Int:=l.foldl Mf []
def pB(ls:List br)(id:Int)(v:Nat)(c:List fR)(a:Nat):List fR:=if 0<=eF (iu id (v+1) a) ls then c++[⟨v+1,a,0,false⟩]else c
def B_(ls:List br)(id:Int)(c:List fR)(v:Nat):List fR:=(List.range 3).foldl (pB ls id v) c
def ui(ls:List br)(id n:Int):List fR:=(List.range n.toNat).foldl (B_ ls id) []
theorem YK(ls:List br)(id:Int)(v:Nat)(c:List fR)(a:Nat):(pB ls id v c a).length<=c.length+1:=by
 unfold pB;split<;>simp
theorem Mg(ls:List br)(id:Int)(c:List fR)(v:Nat):(B_ ls id c v).length<=c.length+3:=by
 unfold B_
 have h1:=YK ls id v c 0
 have h2:=YK ls id v (pB ls id v c 0) 1
 have h3:=YK ls id v (pB ls id v (pB ls id v c 0) 1) 2
 show(pB ls id v (pB ls id v (pB ls id v c 0) 1) 2).length<=_
 omega
theorem apl(n:Int)(ls:List br)(t2:T)(id:Int)(h:n<=6)(h1:ls.length<=1048576):Xn [ii n,.l (ls.map df),t2,ii id]=some [.l ((ui ls id n).map c9)]:=by
 rw[ao4];simp only[L3]
 refine rq n.toNat (λi c=>[.l (c.map c9),ii (i+1)]) (B_ ls id) (λc=>some [T.l (c.map c9)]) [] (λi c=>c.length<=3*i) rfl (ek (by omega)) (by simp) ?_ ?_
 ·intro i c hi hc
  have hl:=Mg ls id c i
  refine⟨by omega,λs=>?_⟩
  have dM:(i:Int)+1<=n:=by omega
  simp(disch:=omega) only[↓pQ,pS,↓reduceIte,ak,ap,aq,au,av,aw,ax,ay,az,Yr,YA,dM]
  refine rq 3 (λa c=>[.l (c.map c9),ii a]) (pB ls id i) (λc=>s [T.l (c.map c9),ii ((i+1:Nat)+1)]) c (λa c=>c.length<=3*i+a) rfl (by unfold rounds;omega) (by omega) ?_ ?_
  ·intro a c ha hc
   have hl:=YK ls id i c a
   refine⟨by omega,λs=>?_⟩
   have uj:(a:Int)<=2:=by omega
   simp(disch:=omega) only[↓pQ,pS,↓reduceIte,ak,ap,aq,au,av,aw,ax,ay,az,Yr,YA,uj,L7]
   unfold pB
   split<;>rfl
  ·intro c s' hc
   simp(disch:=omega) only[↓pQ,pS,↓reduceIte,ak,ap,aq,au,av,aw,ax,ay,az,Yr,YA,]
 ·intro c s hc
  have dM:¬((n.toNat:Int)+1<=n):=by omega
  simp(disch:=omega) only[↓pQ,pS,↓reduceIte,ak,ap,aq,au,av,aw,ax,ay,az,Yr,YA,dM]
def A2(ju e:fR):Bool:=decide (e.node=ju.node)&&(decide (e.ae=ju.ae)&&(jr e.left 0 3&& !(e.both&&decide (e.left=0))))
def A3(gO ju:List fR):Bool:=decide ((ju.length:Int)=gO.length)&&nA gO.length λi=>A2 (gt ju i) (gt gO i)
def tE(x:Node):Bool:=l8 x.self&&(A3 x.gO (ui x.self.net.ai x.self.id x.self.net.n)&&Me (yF x.gO) x.self.heard)
theorem YL(ls:List br)(id n:Int)(h:n<=6):(ui ls id n).length<=18:=by
 have:=NY (l:=List.range n.toNat) (g:=B_ ls id) (c:=[]) (Inv:=λi (c:List fR)=>c.length<=3*i) (by simp) (λi c hi hc=>by have:=Mg ls id c (gt (List.range n.toNat) i);omega)
 simp only[List.length_range]at this
 unfold ui
 omega
structure YM (ns:List Node):Prop where
 len:∀n∈ns,n.self.store.length<=1048576
 bd:∀n∈ns,bI n.self.store
 heard:∀n∈ns,n.self.heard.length<=1048576
theorem kU_(a k o y s:Int)(l:List cn)(c:Int)(f:Bool)(h:l.length<=1048576):J7 [ii a,ii k,ii o,ii y,ii s,.l (l.map fk),ii c,bb f]=some [ii a,ii k,ii o,ii y,ii s,.l (l.map fk),ii c,bb f]:=by
 rw[aoa];simp(disch:=omega) only[↓pQ,pS,↓reduceIte,ak,ap,aq,au,av,aw,ax,ay,az,kQ_]
theorem Fc(a k o y s:Int)(l:List cn)(c:Int)(f:Bool)(h:l.length<=1048576):xA [ii a,ii k,ii o,ii y,ii s,.l (l.map fk),ii c,bb f]=some [ii a,ii k,ii o,ii y,ii s,.l (l.map fk),ii c,bb f]:=by
 rw[amE];simp(disch:=omega) only[↓pQ,pS,↓reduceIte,ak,ap,aq,au,av,aw,ax,ay,az,KV]
def apn(ar:Int)(r:ah):Bool:=r.ae==ar||r.ae==9
def scope(s:List ah)(ar:Int):List ah:=s.filter (apn ar)
theorem Mh(s:List ah)(a k o y:Int)(t4 t5 t6 t7:T)(h:s.length<=1048576):xC [.l (s.map aC),ii a,ii k,ii o,ii y,t4,t5,t6,t7]=some [ii (eF (λx=>dX x ⟨a,k,o,y,0,[],0,false⟩) s)]:=by
 rw[aox];simp(disch:=omega) only[↓pQ,pS,↓reduceIte,ak,ap,aq,au,av,aw,ax,ay,az,kq_,LQ]
 refine(GD s (λi=>[ii 0,ii i]) (λx=>dX x ⟨a,k,o,y,0,[],0,false⟩) (λi=>some [ii i]) (kY:=some [ii (-1)]) rfl (ek h) ?_ ?_).trans (L6 _ _)
 ·intro i hi q
  simp(disch:=omega) only[↓pQ,pS,↓reduceIte,ak,ap,aq,au,av,aw,ax,ay,az,kq_,hi,L9]
  rfl
 ·intro q
  simp(disch:=omega) only[↓pQ,pS,↓reduceIte,ak,ap,aq,au,av,aw,ax,ay,az,kq_,]
theorem Mi(s:List ah)(a k o y:Int)(t4 t5 t6 t7:T)(h:s.length<=1048576):Ew [.l (s.map aC),ii a,ii k,ii o,ii y,t4,t5,t6,t7]=some [ii (eF (λx=>dX x ⟨a,k,o,y,0,[],0,false⟩) s)]:=by
 rw[amY];simp(disch:=omega) only[↓pQ,pS,↓reduceIte,ak,ap,aq,au,av,aw,ax,ay,az,kB_,K5]
 refine(GD s (λi=>[ii 0,ii i]) (λx=>dX x ⟨a,k,o,y,0,[],0,false⟩) (λi=>some [ii i]) (kY:=some [ii (-1)]) rfl (ek h) ?_ ?_).trans (L6 _ _)
 ·intro i hi q
  simp(disch:=omega) only[↓pQ,pS,↓reduceIte,ak,ap,aq,au,av,aw,ax,ay,az,kB_,hi,L_]
  rfl
 ·intro q
  simp(disch:=omega) only[↓pQ,pS,↓reduceIte,ak,ap,aq,au,av,aw,ax,ay,az,kB_,]
def bL(s:List ah)(r:ah):Int:=eF (λx=>dX x r) s
theorem A4(s:List ah)(r:ah):eF (λx=>dX x ⟨r.ae,r.kind,r.owner,r.key,0,[],0,false⟩) s=bL s r:=rfl
theorem GX(s:List ah)(h:s.length<=1048576)(hn:bI s):AF [.l (s.map aC)]=some [.l (s.map aC)]:=by
 rw[aod];simp(disch:=omega) only[↓pQ,pS,↓reduceIte,ak,ap,aq,au,av,aw,ax,ay,az,vU_,kG_]
 refine(kC s (λi c=>[.l (c.map aC),ii i]) (λc a=>c++[id a]) (λc=>some [T.l (c.map aC)]) [] (λi c=>c.length<=i) rfl (ek h) (by simp) ?_ ?_).trans (show some [T.l ((s.foldl (λc a=>c++[id a]) []).map aC)]=some [T.l (s.map aC)] by rw[foldl_map];simp)
 ·intro i c hi hc
  refine⟨by simp;omega,λk=>?_⟩
  have:=hn.gt (n:=i) (by omega) hi
  simp(disch:=omega) only[↓pQ,pS,↓reduceIte,ak,ap,aq,au,av,aw,ax,ay,az,vU_,hi,kU_]
  rfl
 ·intro c k hc
  simp(disch:=omega) only[↓pQ,pS,↓reduceIte,ak,ap,aq,au,av,aw,ax,ay,az,vU_,]
theorem On(s:List ah)(h:s.length<=1048576)(hn:bI s):BZ [.l (s.map aC)]=some [.l (s.map aC)]:=by
 rw[amH];simp(disch:=omega) only[↓pQ,pS,↓reduceIte,ak,ap,aq,au,av,aw,ax,ay,az,vZ_,kL_]
 refine(kC s (λi c=>[.l (c.map aC),ii i]) (λc a=>c++[id a]) (λc=>some [T.l (c.map aC)]) [] (λi c=>c.length<=i) rfl (ek h) (by simp) ?_ ?_).trans (show some [T.l ((s.foldl (λc a=>c++[id a]) []).map aC)]=some [T.l (s.map aC)] by rw[foldl_map];simp)
 ·intro i c hi hc
  refine⟨by simp;omega,λk=>?_⟩
  have:=hn.gt (n:=i) (by omega) hi
  simp(disch:=omega) only[↓pQ,pS,↓reduceIte,ak,ap,aq,au,av,aw,ax,ay,az,vZ_,hi,Fc]
  rfl
 ·intro c k hc
  simp(disch:=omega) only[↓pQ,pS,↓reduceIte,ak,ap,aq,au,av,aw,ax,ay,az,vZ_,]
def dg(s:List ah)(r:ah):List ah:=s.filter (λx=>eT x r)++([r]++s.filter (λx=>eT r x))
abbrev iT(s:List ah):Prop:=s.Pairwise λa b=>eT a b=true
theorem Fe{a b c:ah}(h:eT a b=true)(h':eT b c=true):eT a c=true:=by rw[oL]at *;omega
theorem Ff(a:ah):eT a a=false:=by
 cases h:eT a a with
 |false=>rfl
 |true=>rw[oL]at h;omega
theorem A5{a b:ah}(h:eT a b=true):eT b a=false:=by
 cases h':eT b a with
 |false=>rfl
 |true=>rw[oL]at *;omega
theorem YN{a b:ah}(h:eT a b=true):dX a b=false:=by
 cases h':dX a b with
 |false=>rfl
 |true=>rw[oL]at h;rw[sameKey_iff]at h';omega
theorem YO{a b:ah}(h:eT a b=false)(h':dX a b=false):eT b a=true:=by
 have h1:¬(eT a b=true):=by rw[h];decide
 have h2:¬(dX a b=true):=by rw[h'];decide
 rw[oL]at h1⊢
 rw[sameKey_iff]at h2
 omega
theorem YP{a b r:ah}(h:dX a b=true):eT a r=eT b r∧eT r a=eT r b:=by
 rw[sameKey_iff]at h
 constructor
 ·rw[Bool.eq_iff_iff,oL,oL];omega
 ·rw[Bool.eq_iff_iff,oL,oL];omega
theorem apo{s:List ah}(h:eI fN eT s=true):iT s:=by
 have h:=cq.1 h
 rw[iT,List.pairwise_iff_getElem]
 have step:∀i,(hi:i+1<s.length)->eT s[i] s[i+1]=true:=by
  intro i hi
  have:=h (i+1) hi
  simp only[bA,Bool.or_eq_true,Bool.not_eq_true',decide_eq_false_iff_not]at this
  have h2:=this.2.resolve_left (by omega)
  rwa[show(((i+1:Nat):Int)-1)=(i:Int) by omega,eS (by omega),eS hi]at h2
 intro i j hi hj vn
 obtain⟨d,rfl⟩:∃d,j=i+1+d:=⟨j-i-1,by omega⟩
 clear vn
 induction d with
 |zero=>exact step i (by omega)
 |succ d ih=>exact Fe (ih (by omega)) (step (i+1+d) (by omega))
theorem Fg{s:List ah}(h:eJ s=true):iT s:=by
 simp only[eJ,bA]at h;exact apo h.2
theorem GY{s:List ah}(h:iT s)(r:ah):iT (dg s r):=by
 unfold dg iT
 rw[List.pairwise_append]
 refine⟨h.filter _,?_,?_⟩
 ·rw[List.pairwise_append]
  refine⟨by simp,h.filter _,?_⟩
  intro a ha b hb
  rw[List.mem_singleton]at ha
  subst ha
  exact(List.mem_filter.1 hb).2
 ·intro a ha b hb
  have ha:=(List.mem_filter.1 ha).2
  rcases List.mem_append.1 hb with hb|hb
  ·rw[List.mem_singleton]at hb
   subst hb;exact ha
  ·exact Fe ha (List.mem_filter.1 hb).2
theorem Fh(s:List ah)(r:ah):(dg s r).length<=s.length+1:=by
 unfold dg
 have:(s.filter (λx=>eT x r)).length+(s.filter (λx=>eT r x)).length<=s.length:=by
  induction s with
  |nil=>simp
  |cons x s ih=>
   simp only[List.filter_cons]
   cases h:eT x r with
   |true=>simp[A5 h];omega
   |false=>cases h':eT r x<;>simp<;>omega
 simp;omega
theorem xJ{s:List ah}{r x:ah}(h:x∈dg s r):x=r∨x∈s:=by
 unfold dg at h
 rcases List.mem_append.1 h with h|h
 ·exact .inr (List.mem_filter.1 h).1
 ·rcases List.mem_append.1 h with h|h
  ·exact .inl (List.mem_singleton.1 h)
  ·exact .inr (List.mem_filter.1 h).1
theorem YQ{s:List ah}{r:ah}(h:bI s)(hr:r.bd.length<=1048576):bI (dg s r):=λx hx=>by
 rcases xJ hx with rfl|hx
 ·exact hr
 ·exact h x hx
def iN(s:List ah)(r:ah):Nat:=(s.filter (λx=>eT x r)).length
theorem apq(s:List ah)(r:ah):iN s r<=s.length:=List.length_filter_le _ _
theorem YR{s:List ah}(h:iT s)(r:ah):s.take (iN s r)=s.filter (λx=>eT x r)∧(∀i,(hi:i<s.length)->(eT s[i] r=true↔i<iN s r)):=by
 induction s with
 |nil=>simp[iN]
 |cons x s ih=>
  have hs:=List.pairwise_cons.1 h
  have ih:=ih hs.2
  cases hx:eT x r with
  |true=>
   have e:iN (x::s) r=iN s r+1:=by simp[iN,List.filter_cons,hx]
   rw[e]
   refine⟨by rw[List.take_succ_cons,ih.1,List.filter_cons,hx];rfl,λi hi=>?_⟩
   cases i with
   |zero=>simp[hx]
   |succ i=>
    rw[List.getElem_cons_succ]
    have:=ih.2 i (by simpa using hi)
    rw[this];omega
  |false=>
   have none:∀y∈s,eT y r=false:=by
    intro y hy
    cases hyr:eT y r with
    |false=>rfl
    |true=>rw[Fe (hs.1 y hy) hyr]at hx;cases hx
   have e:(x::s).filter (λx=>eT x r)=[]:=by
    rw[List.filter_eq_nil_iff]
    intro y hy
    rcases List.mem_cons.1 hy with rfl|hy
    ·rw[hx];decide
    ·rw[none y hy];decide
   have e2:iN (x::s) r=0:=by unfold iN;rw[e];rfl
   rw[e2,e]
   refine⟨rfl,λi hi=>⟨λh3=>?_,λh3=>absurd h3 (by omega)⟩⟩
   cases i with
   |zero=>rw[List.getElem_cons_zero,hx]at h3;cases h3
   |succ i=>rw[List.getElem_cons_succ,none _ (List.getElem_mem _)]at h3;cases h3
theorem apr{s:List ah}(h:iT s)(r:ah):s.drop (iN s r+(if iN s r<s.length∧dX (gt s (iN s r:Nat)) r=true then 1 else 0))=s.filter (λx=>eT r x):=by
 have kR:=YR h r
 have h1:s.filter (λx=>eT r x)=(s.drop (iN s r)).filter (λx=>eT r x):=by
  have e0:s.filter (λx=>eT r x)=(s.take (iN s r)++s.drop (iN s r)).filter (λx=>eT r x):=by rw[List.take_append_drop]
  rw[e0,List.filter_append,kR.1]
  have e:(List.filter (λx=>eT x r) s).filter (λx=>eT r x)=[]:=by
   rw[List.filter_eq_nil_iff]
   intro y hy
   rw[A5 (List.mem_filter.1 hy).2];decide
  rw[e,List.nil_append]
 rw[h1]
 have hd:∀x∈s.drop (iN s r),eT x r=false:=by
  intro x hx
  obtain⟨i,hi,rfl⟩:=List.mem_iff_getElem.1 hx
  rw[List.getElem_drop]
  cases hc:eT (s[iN s r+i]'(by simp at hi;omega)) r with
  |false=>rfl
  |true=>have:=(kR.2 _ (by simp at hi;omega)).1 hc;omega
 have hp:iT (s.drop (iN s r)):=h.drop
 by_cases a_:iN s r<s.length
 ·have hg:=eS a_
  rw[hg]
  rw[List.drop_eq_getElem_cons a_]at hd hp⊢
  have yc:=List.pairwise_cons.1 hp
  by_cases hk:dX s[iN s r] r=true
  ·rw[if_pos ⟨a_,hk⟩,List.filter_cons,(YP hk).2▸Ff r|>λ(e:eT r s[iN s r]=false)=>e,if_neg (by decide)]
   refine(List.filter_eq_self.2 λx hx=>?_).symm
   rw[<-(YP hk).1]
   exact yc.1 x hx
  ·rw[if_neg (by simp[hk]),Nat.add_zero,List.drop_eq_getElem_cons a_]
   refine(List.filter_eq_self.2 λx hx=>?_).symm
   have h0:=YO (hd _ (.head _)) (by simpa using hk)
   rcases List.mem_cons.1 hx with rfl|hx
   ·exact h0
   ·exact Fe h0 (yc.1 x hx)
 ·rw[List.drop_eq_nil_iff.2 (by omega),List.drop_eq_nil_iff.2 (by omega)]
  rfl
theorem bI.take{s:List ah}(h:bI s)(n:Nat):bI (s.take n):=λr hr=>h r (List.mem_of_mem_take hr)
theorem bI.drop{s:List ah}(h:bI s)(n:Nat):bI (s.drop n):=λr hr=>h r (List.mem_of_mem_drop hr)
theorem yG{β σ:Type}{F:(σ->Option β)->σ->Option β}{R:Nat}{x:σ}(st:Nat->σ)(n:Nat){out:Option β}(hx:x=st 0)(hR:n<R)(step:∀i:Nat,(i:Int)<(n:Int)->∀s,F s (st i)=s (st (i+1)))(fin:∀s,F s (st n)=out):iter F R x=out:=by
 have:=BX (F:=F) (R:=R) (x:=x) n st (λ_=>true) (jy:=out) (g_:=out) hx hR (λi hi s=>by simpa using step i hi s) fin
 rw[this];simp
theorem Fi(s:List ah)(a k o y q:Int)(l:List cn)(c:Int)(f:Bool)(h:s.length<=1048570)(hn:bI s)(hs:iT s)(hl:l.length<=1048576):
  vU [.l (s.map aC),ii a,ii k,ii o,ii y,ii q,.l (l.map fk),ii c,bb f]=some [.l ((dg s ⟨a,k,o,y,q,l,c,f⟩).map aC)]:=by
 obtain⟨r,hr⟩:∃r:ah,r=⟨a,k,o,y,q,l,c,f⟩:=⟨_,rfl⟩
 have hle:=apq s r
 have kR:=YR hs r
 have yg:=apr hs r
 rw[aop];simp(disch:=omega) only[↓pQ,pS,↓reduceIte,ak,ap,aq,au,av,aw,ax,ay,az,LL,LM]
 refine yG (λi=>[ii i]) (iN s r) rfl (ek (by omega)) ?_ ?_
 ·intro i hi w
  have dM:(i:Int)<s.length:=by omega
  have hb:eT (gt s i) r=true:=by rw[eS (by omega)];exact(kR.2 i (by omega)).2 (by omega)
  have ji:eT ⟨(gt s i).ae,(gt s i).kind,(gt s i).owner,(gt s i).key,0,[],0,false⟩ ⟨a,k,o,y,0,[],0,false⟩=true:=by rw[<-hb,hr];rfl
  simp(disch:=omega) only[↓pQ,pS,↓reduceIte,ak,ap,aq,au,av,aw,ax,ay,az,LL,dM,L',ji]
 ·intro w
  have ht:((iN s r:Nat):Int).toNat=iN s r:=Int.toNat_natCast _
  have m5:(s.take (iN s r)).length<=1048570:=by simp;omega
  by_cases a_:iN s r<s.length
  ·have dM:((iN s r:Nat):Int)<s.length:=by omega
   have hb:eT (gt s (iN s r:Nat)) r=false:=by
    rw[eS a_]
    cases hc:eT s[iN s r] r with
    |false=>rfl
    |true=>have:=(kR.2 _ a_).1 hc;omega
   have ji:eT ⟨(gt s (iN s r:Nat)).ae,(gt s (iN s r:Nat)).kind,(gt s (iN s r:Nat)).owner,(gt s (iN s r:Nat)).key,0,[],0,false⟩ ⟨a,k,o,y,0,[],0,false⟩=false:=by rw[<-hb,hr];rfl
   have lp:dX ⟨(gt s (iN s r:Nat)).ae,(gt s (iN s r:Nat)).kind,(gt s (iN s r:Nat)).owner,(gt s (iN s r:Nat)).key,0,[],0,false⟩ ⟨a,k,o,y,0,[],0,false⟩=dX (gt s (iN s r:Nat)) r:=by rw[hr];rfl
   simp(disch:=omega) only[↓pQ,pS,↓reduceIte,ak,ap,aq,au,av,aw,ax,ay,az,LL,dM,L',ji,ht,GX _ (show(s.take (iN s r)).length<=1048576 by omega) (hn.take _),kU_,L9,lp,dI]
   cases hk:dX (gt s (iN s r:Nat)) r with
   |true=>
    have zj:(((iN s r:Nat):Int)+1).toNat=iN s r+1:=by omega
    have hd:=GX (s.drop (iN s r+1)) (by simp;omega) (hn.drop _)
    rw[if_pos ⟨a_,hk⟩]at yg
    simp only[if_true]
    simp(disch:=omega) only[↓pQ,pS,↓reduceIte,ak,ap,aq,au,av,aw,ax,ay,az,LL,zj,hd]
    rw[Jz (by simp;omega),eK,yg,kR.1,<-hr,List.append_assoc]
    rfl
   |false=>
    have hd:=GX (s.drop (iN s r)) (by simp;omega) (hn.drop _)
    rw[if_neg (by simp[hk]),Nat.add_zero]at yg
    simp only[dI,if_false]
    simp(disch:=omega) only[↓pQ,pS,↓reduceIte,ak,ap,aq,au,av,aw,ax,ay,az,LL,ht,hd]
    rw[Jz (by simp;omega),eK,yg,kR.1,<-hr,List.append_assoc]
    rfl
  ·have dM:¬(((iN s r:Nat):Int)<s.length):=by omega
   have hd:=GX (s.drop (iN s r)) (by simp;omega) (hn.drop _)
   rw[if_neg (by simp[a_]),Nat.add_zero]at yg
   simp(disch:=omega) only[↓pQ,pS,↓reduceIte,ak,ap,aq,au,av,aw,ax,ay,az,LL,dM,ht,GX _ (show(s.take (iN s r)).length<=1048576 by omega) (hn.take _),kU_,hd]
   rw[Jz (by simp;omega),eK,yg,kR.1,<-hr,List.append_assoc]
   rfl
theorem Fj(s:List ah)(a k o y q:Int)(l:List cn)(c:Int)(f:Bool)(h:s.length<=1048570)(hn:bI s)(hl:l.length<=1048576):
  B0 [.l (s.map aC),ii a,ii k,ii o,ii y,ii q,.l (l.map fk),ii c,bb f]=some [.l ((dg s ⟨a,k,o,y,q,l,c,f⟩).map aC)]:=by
 obtain⟨r,hr⟩:∃r:ah,r=⟨a,k,o,y,q,l,c,f⟩:=⟨_,rfl⟩
 have hb:∀x:ah,eT ⟨x.ae,x.kind,x.owner,x.key,0,[],0,false⟩ ⟨a,k,o,y,0,[],0,false⟩=eT x r:=λx=>by rw[hr];rfl
 have ji:∀x:ah,eT ⟨a,k,o,y,0,[],0,false⟩ ⟨x.ae,x.kind,x.owner,x.key,0,[],0,false⟩=eT r x:=λx=>by rw[hr];rfl
 rw[amS];simp(disch:=omega) only[↓pQ,pS,↓reduceIte,ak,ap,aq,au,av,aw,ax,ay,az,Oe,Og,K1]
 refine(kC s (λi c=>[.l (c.map aC),ii i]) (λc x=>if eT x r=true then c++[x]else c) (λd=>some [T.l ((s.foldl (λc x=>if eT r x=true then c++[x]else c) (d++[r])).map aC)]) [] (λi c=>c.length<=i) rfl (ek (by omega)) (by simp) ?_ ?_).trans ?_
 ·intro i c hi hc
  refine⟨by split<;>(try simp)<;>omega,λw=>?_⟩
  have:=hn.gt (n:=i) (by omega) hi
  simp(disch:=omega) only[↓pQ,pS,↓reduceIte,ak,ap,aq,au,av,aw,ax,ay,az,Oe,Og,hi,Ma,hb]
  split<;>rfl
 ·intro d w hd
  simp(disch:=omega) only[↓pQ,pS,↓reduceIte,ak,ap,aq,au,av,aw,ax,ay,az,Oe,Og,]
  rw[<-hr]
  refine kC s (λi c=>[.l (c.map aC),ii i]) (λc x=>if eT r x=true then c++[x]else c) (λc=>some [T.l (c.map aC)]) (d++[r]) (λi c=>c.length<=d.length+1+i) rfl (ek (by omega)) (by simp) ?_ ?_
  ·intro i c hi hc
   refine⟨by split<;>(try simp)<;>omega,λw=>?_⟩
   have:=hn.gt (n:=i) (by omega) hi
   simp(disch:=omega) only[↓pQ,pS,↓reduceIte,ak,ap,aq,au,av,aw,ax,ay,az,Oe,Og,hi,Ma,ji]
   split<;>rfl
  ·intro c w hc
   simp(disch:=omega) only[↓pQ,pS,↓reduceIte,ak,ap,aq,au,av,aw,ax,ay,az,Oe,Og,]
 ·rw[TB,TB,<-hr]
  unfold dg
  simp
theorem aps{s:List ah}{r:ah}{n:Nat}(h:s.length+1<=n):(dg s r).length<=n:=Nat.le_trans (Fh s r) h
def vo:List Int:=[1,2,3,4,5,6]
def fv(l:List Int):Prop:=l.Pairwise (· < ·)∧∀x∈l,1<=x∧x<=6
theorem GZ:∀{a b:List Int},a.Pairwise (· < ·)->b.Pairwise (· < ·)->(∀x,x∈a↔x∈b)->a=b
 | [],[],_,_,_=>rfl
 | [],y::b,_,_,h=>absurd ((h y).2 (.head _)) (by simp)
 |x::a,[],_,_,h=>absurd ((h x).1 (.head _)) (by simp)
 |x::a,y::b,ha,hb,h=>by
  have uj:=List.pairwise_cons.1 ha
  have ji:=List.pairwise_cons.1 hb
  have H_:x=y:=by
   rcases List.mem_cons.1 ((h x).1 (.head _))with e|e
   ·exact e
   ·rcases List.mem_cons.1 ((h y).2 (.head _))with e'|e'
    ·exact e'.symm
    ·have:=ji.1 x e;have:=uj.1 y e';omega
  subst H_
  have:a=b:=GZ uj.2 ji.2 λz=>by
   constructor
   ·intro hz
    rcases List.mem_cons.1 ((h z).1 (.tail _ hz))with e|e
    ·subst e;have:=uj.1 z hz;omega
    ·exact e
   ·intro hz
    rcases List.mem_cons.1 ((h z).2 (.tail _ hz))with e|e
    ·subst e;have:=ji.1 z hz;omega
    ·exact e
  rw[this]
def xK(a b:List Int):List Int:=vo.filter λx=>a.contains x||b.contains x
theorem rD:vo.Pairwise (· < ·):=by unfold vo;simp
theorem Fk(a b:List Int):fv (xK a b):=by
 refine⟨rD.filter _,λx hx=>?_⟩
 have:=(List.mem_filter.1 hx).1
 simp[vo]at this
 omega
theorem iZ{x:Int}:x∈vo↔1<=x∧x<=6:=by simp[vo];omega
theorem Fl{a b:List Int}{x:Int}:x∈xK a b↔(1<=x∧x<=6)∧(x∈a∨x∈b):=by
 unfold xK
 rw[List.mem_filter,iZ]
 simp
theorem YS{a:List Int}(h:fv a):xK [] a=a:=
 GZ (Fk _ _).1 h.1 λx=>by
  rw[Fl]
  exact⟨λh'=>h'.2.resolve_left (by simp),λh'=>⟨h.2 x h',.inr h'⟩⟩
theorem rE{a:List Int}(h:fv a):a.length<=6:=by
 have e:xK [] a=a:=YS h
 rw[<-e]
 exact List.length_filter_le _ _
theorem YT:fv []:=⟨.nil,by simp⟩
theorem G0{n:Int}(h:1<=n)(h':n<=6):fv [n]:=⟨by simp,by simp;omega⟩
theorem wj(l:List Int)(n:Int)(h:l.length<=1048576):EF [.l (l.map aG),ii n]=some [bb (l.contains n)]:=by
 rw[aor];simp(disch:=omega) only[↓pQ,pS,↓reduceIte,ak,ap,aq,au,av,aw,ax,ay,az,jw_,LN]
 refine(GD l (λi=>[bb false,ii i]) (λx=>x==n) (λ_=>some [bb true]) (kY:=some [bb false]) rfl (ek h) ?_ ?_).trans ?_
 ·intro i hi q
  simp(disch:=omega) only[↓pQ,pS,↓reduceIte,ak,ap,aq,au,av,aw,ax,ay,az,jw_,hi]
 ·intro q
  simp(disch:=omega) only[↓pQ,pS,↓reduceIte,ak,ap,aq,au,av,aw,ax,ay,az,jw_,]
 ·rw[kL]
  congr 3
  by_cases hf:eF (λx=>x==n) l<0
  ·rw[if_pos hf]
   have:=(BW _ _).1 hf
   cases hc:l.contains n with
   |false=>rfl
   |true=>
    have hm:=List.contains_iff_mem.1 hc
    have:=this n hm
    simp at this
  ·rw[if_neg hf]
   have:=t_ _ _ (by omega:0<=eF (λx=>x==n) l)
   have hm:=j_ (l:=l) (n:=eF (λx=>x==n) l) (by omega) (tv _ _)
   rw[beq_iff_eq]at this
   rw[this]at hm
   exact(List.contains_iff_mem.2 hm).symm
theorem YU(l:List Int)(n:Int)(h:l.length<=1048576):Az [.l (l.map aG),ii n]=some [bb (l.contains n)]:=by
 rw[am6];simp(disch:=omega) only[↓pQ,pS,↓reduceIte,ak,ap,aq,au,av,aw,ax,ay,az,kw_,K9]
 refine(GD l (λi=>[bb false,ii i]) (λx=>x==n) (λ_=>some [bb true]) (kY:=some [bb false]) rfl (ek h) ?_ ?_).trans ?_
 ·intro i hi q
  simp(disch:=omega) only[↓pQ,pS,↓reduceIte,ak,ap,aq,au,av,aw,ax,ay,az,kw_,hi]
 ·intro q
  simp(disch:=omega) only[↓pQ,pS,↓reduceIte,ak,ap,aq,au,av,aw,ax,ay,az,kw_,]
 ·rw[kL]
  congr 3
  by_cases hf:eF (λx=>x==n) l<0
  ·rw[if_pos hf]
   have:=(BW _ _).1 hf
   cases hc:l.contains n with
   |false=>rfl
   |true=>
    have hm:=List.contains_iff_mem.1 hc
    have:=this n hm
    simp at this
  ·rw[if_neg hf]
   have:=t_ _ _ (by omega:0<=eF (λx=>x==n) l)
   have hm:=j_ (l:=l) (n:=eF (λx=>x==n) l) (by omega) (tv _ _)
   rw[beq_iff_eq]at this
   rw[this]at hm
   exact(List.contains_iff_mem.2 hm).symm
theorem sm(l:List Int)(h:l.length<=1048576):vj [.l (l.map aG)]=some [.l (l.map aG)]:=by
 rw[an9];simp(disch:=omega) only[↓pQ,pS,↓reduceIte,ak,ap,aq,au,av,aw,ax,ay,az,LC]
theorem Oo(a b:Int)(l:List Int)(h:l.length<=1048576):vV [ii a,ii b,.l (l.map aG)]=some [ii a,ii b,.l (l.map aG)]:=by
 rw[aoD];simp(disch:=omega) only[↓pQ,pS,↓reduceIte,ak,ap,aq,au,av,aw,ax,ay,az,LU,sm]
theorem Mk(a b:Int)(l:List Int)(h:l.length<=1048576):JY [ii a,ii b,.l (l.map aG)]=some [ii a,ii b,.l (l.map aG)]:=by
 rw[ana];simp(disch:=omega) only[↓pQ,pS,↓reduceIte,ak,ap,aq,au,av,aw,ax,ay,az,Lc]
def ej(l:List Way)(to:Int):Int:=eF (λw=>w.to==to) l
theorem Ml(l:List Way)(to:Int)(h:l.length<=1048576)(hl:∀w∈l,w.aH.length<=1048576):Kb [.l (l.map aV),ii to]=if ej l to<0 then some [ii 0,ii 0,.l [],bb false]else some (aV (gt l (ej l to))++[bb true]):=by
 rw[aoJ];simp(disch:=omega) only[↓pQ,pS,↓reduceIte,ak,ap,aq,au,av,aw,ax,ay,az,kn_,LX]
 refine GD l (λi=>[bb false,ii i]) (λw=>w.to==to) (λi=>some (aV (gt l i)++[bb true])) (kY:=some [ii 0,ii 0,.l [],bb false]) rfl (ek h) ?_ ?_
 ·intro i hi q
  have:=hl _ (j_ (n:=i) (by omega) hi)
  simp(disch:=omega) only[↓pQ,pS,↓reduceIte,ak,ap,aq,au,av,aw,ax,ay,az,kn_,hi,Oo]
  rfl
 ·intro q
  simp(disch:=omega) only[↓pQ,pS,↓reduceIte,ak,ap,aq,au,av,aw,ax,ay,az,kn_,]
theorem Fm(l:List Way)(to:Int)(h:l.length<=1048576)(hl:∀w∈l,w.aH.length<=1048576):ym [.l (l.map aV),ii to]=if ej l to<0 then some [ii 0,ii 0,.l [],bb false]else some (aV (gt l (ej l to))++[bb true]):=by
 rw[anc];simp(disch:=omega) only[↓pQ,pS,↓reduceIte,ak,ap,aq,au,av,aw,ax,ay,az,kr_,Ld]
 refine GD l (λi=>[bb false,ii i]) (λw=>w.to==to) (λi=>some (aV (gt l i)++[bb true])) (kY:=some [ii 0,ii 0,.l [],bb false]) rfl (ek h) ?_ ?_
 ·intro i hi q
  have:=hl _ (j_ (n:=i) (by omega) hi)
  simp(disch:=omega) only[↓pQ,pS,↓reduceIte,ak,ap,aq,au,av,aw,ax,ay,az,kr_,hi,Mk]
  rfl
 ·intro q
  simp(disch:=omega) only[↓pQ,pS,↓reduceIte,ak,ap,aq,au,av,aw,ax,ay,az,kr_,]
def hX(c:List Int)(n:Int):List Int:=c.filter (λx=>decide (x<n))++([n]++c.filter (λx=>decide (n<x)))
def eA(c:List Int)(n:Int):Nat:=(c.filter (λx=>decide (x<n))).length
theorem Fo(c:List Int)(n:Int):eA c n<=c.length:=List.length_filter_le _ _
theorem Oq{c:List Int}(h:c.Pairwise (· < ·))(n:Int):c.take (eA c n)=c.filter (λx=>decide (x<n))∧c.drop (eA c n)=c.filter (λx=>decide (n<=x))∧∀i,(hi:i<c.length)->(c[i]<n↔i<eA c n):=by
 induction c with
 |nil=>simp[eA]
 |cons x c ih=>
  have hs:=List.pairwise_cons.1 h
  obtain⟨i1,i2,i3⟩:=ih hs.2
  by_cases hx:x<n
  ·have e:eA (x::c) n=eA c n+1:=by simp[eA,List.filter_cons,hx]
   have hx':¬n<=x:=by omega
   rw[e]
   refine⟨by rw[List.take_succ_cons,i1];simp[List.filter_cons,hx],by rw[List.drop_succ_cons,i2];simp[List.filter_cons,hx'],λi hi=>?_⟩
   cases i with
   |zero=>simp[hx]
   |succ i=>
    rw[List.getElem_cons_succ,i3 i (by simpa using hi)];omega
  ·have e1:(x::c).filter (λx=>decide (x<n))=[]:=by
    rw[List.filter_eq_nil_iff]
    intro y hy
    rcases List.mem_cons.1 hy with rfl|hy
    ·simp;omega
    ·have:=hs.1 y hy;simp;omega
   have e2:(x::c).filter (λx=>decide (n<=x))=x::c:=by
    rw[List.filter_eq_self]
    intro y hy
    rcases List.mem_cons.1 hy with rfl|hy
    ·simp;omega
    ·have:=hs.1 y hy;simp;omega
   have e:eA (x::c) n=0:=by unfold eA;rw[e1];rfl
   rw[e,e1,e2]
   refine⟨rfl,rfl,λi hi=>⟨λh3=>?_,λh3=>absurd h3 (by omega)⟩⟩
   cases i with
   |zero=>rw[List.getElem_cons_zero]at h3;omega
   |succ i=>
    rw[List.getElem_cons_succ]at h3
    have:=hs.1 _ (List.getElem_mem (by simpa using hi:i<c.length));omega
theorem jA{c:List Int}{n x:Int}:x∈hX c n↔x=n∨x∈c:=by
 unfold hX
 simp only[List.mem_append,List.mem_filter,List.mem_singleton,decide_eq_true_eq]
 constructor
 ·rintro(h|h|h)
  ·exact .inr h.1
  ·exact .inl h
  ·exact .inr h.1
 ·rintro(h|h)
  ·exact .inr (.inl h)
  ·rcases Int.lt_trichotomy x n with h'|h'|h'
   ·exact .inl ⟨h,h'⟩
   ·exact .inr (.inl h')
   ·exact .inr (.inr ⟨h,h'⟩)
theorem Mm{c:List Int}(h:c.Pairwise (· < ·))(n:Int):(hX c n).Pairwise (· < ·):=by
 unfold hX
 rw[List.pairwise_append,List.pairwise_append]
 refine⟨h.filter _,⟨by simp,h.filter _,?_⟩,?_⟩
 ·intro a ha b hb
  rw[List.mem_singleton]at ha
  have:=(List.mem_filter.1 hb).2
  simp at this;omega
 ·intro a ha b hb
  have ha:=(List.mem_filter.1 ha).2
  simp only[decide_eq_true_eq]at ha
  rcases List.mem_append.1 hb with hb|hb
  ·rw[List.mem_singleton]at hb;omega
  ·have hb:=(List.mem_filter.1 hb).2
   simp only[decide_eq_true_eq]at hb;omega
theorem apt{c:List Int}(h:fv c){n:Int}(h1:1<=n)(h2:n<=6):fv (hX c n):=
 ⟨Mm h.1 n,λx hx=>by rcases jA.1 hx with rfl|hx;exact⟨h1,h2⟩;exact h.2 x hx⟩
theorem Mo{c:List Int}(h:c.Pairwise (· < ·)){n:Int}(hn:n∈c):hX c n=c:=
 GZ (Mm h n) h λx=>by rw[jA];exact⟨λh=>h.elim (λe=>e▸hn) id,.inr⟩
theorem Ot{c:List Int}(h:c.Pairwise (· < ·)){n:Int}(hn:n∉c):hX c n=c.take (eA c n)++([n]++c.drop (eA c n)):=by
 obtain⟨h1,h2,_⟩:=Oq h n
 rw[h1,h2]
 unfold hX
 congr 2
 refine List.filter_congr λx hx=>?_
 have:x≠n:=λe=>hn (e▸hx)
 have:(n<x)=(n<=x):=by simp only[eq_iff_iff];omega
 simp[this]
theorem Mp{c:List Int}(h:c.Pairwise (· < ·)){n:Int}(hl:eA c n<c.length):(gt c (eA c n:Nat)=n↔n∈c):=by
 obtain⟨_,h2,h3⟩:=Oq h n
 rw[eS hl]
 constructor
 ·intro e;exact e▸List.getElem_mem hl
 ·intro hm
  obtain⟨j,hj,e⟩:=List.mem_iff_getElem.1 hm
  have h4:¬(j<eA c n):=λhc=>by have:=(h3 j hj).2 hc;omega
  have h5:¬(c[eA c n]<n):=λhc=>by have:=(h3 _ hl).1 hc;omega
  rcases Nat.lt_or_ge (eA c n) j with h6|h6
  ·have:=List.pairwise_iff_getElem.1 h _ _ hl hj h6
   omega
  ·have:j=eA c n:=by omega
   subst this;exact e
theorem Mq{c:List Int}(h:c.Pairwise (· < ·)){n:Int}(hl:¬eA c n<c.length):n∉c:=by
 obtain⟨_,_,h3⟩:=Oq h n
 intro hm
 obtain⟨j,hj,e⟩:=List.mem_iff_getElem.1 hm
 have h4:¬(j<eA c n):=λhc=>by have:=(h3 j hj).2 hc;omega
 omega
def lM(a b:Way):Way:=if b.cost>a.cost then a else if a.cost>b.cost then b else⟨a.to,a.cost,xK a.aH b.aH⟩
theorem YV{l c:List Int}(hl:∀x∈l,1<=x∧x<=6)(hc:fv c):fv (l.foldl hX c)∧∀x,x∈l.foldl hX c↔x∈c∨x∈l:=by
 induction l generalizing c with
 |nil=>exact⟨hc,by simp⟩
 |cons n l ih=>
  have hn:=hl n (.head _)
  obtain⟨h1,h2⟩:=ih (λx hx=>hl x (.tail _ hx)) (apt hc hn.1 hn.2)
  refine⟨h1,λx=>?_⟩
  rw[List.foldl_cons,h2,jA,List.mem_cons]
  constructor
  ·rintro((h|h)|h)
   ·exact .inr (.inl h)
   ·exact .inl h
   ·exact .inr (.inr h)
  ·rintro(h|h|h)
   ·exact .inl (.inr h)
   ·exact .inl (.inl h)
   ·exact .inr h
def Fp(a b:Way):Way:=if b.cost>a.cost then a else if a.cost>b.cost then b else⟨a.to,a.cost,b.aH.foldl hX (a.aH.foldl hX [])⟩
theorem YW(c:List Int)(n:Int):(hX c n).length<=c.length+1:=by
 have:∀c:List Int,(c.filter (λx=>decide (x<n))).length+(c.filter (λx=>decide (n<x))).length<=c.length:=by
  intro c
  induction c with
  |nil=>simp
  |cons x c ih=>by_cases h1:x<n<;>by_cases h2:n<x<;>simp[h1,h2]<;>omega
 have:=this c
 unfold hX
 simp only[List.length_append,List.length_singleton];omega
theorem apu(a b:Int)(l:List Int)(a' b':Int)(l':List Int)(hl:l.length<=50)(jU:l'.length<=50):xD [ii a,ii b,.l (l.map aG),ii a',ii b',.l (l'.map aG)]=some (aV (Fp ⟨a,b,l⟩ ⟨a',b',l'⟩)):=by
 rw[aoF];simp(disch:=omega) only[↓pQ,pS,↓reduceIte,ak,ap,aq,au,av,aw,ax,ay,az,wc,we,wg,wh,LV,Oo _ _ _ (show l.length<=1048576 by omega),Oo _ _ _ (show l'.length<=1048576 by omega)]
 unfold Fp
 by_cases h1:b'>b
 ·simp only[h1,if_true];rfl
 by_cases h2:b>b'
 ·simp only[h1,h2,if_true,if_false];rfl
 simp only[h1,h2,if_false]
 have one:∀(c:List Int) (n:Int) (j:Nat) (s:List T->Option (List T)),c.length<=200->(j:Int)<100->∀{F:af->af},(∀k:Nat,∀w,(k:Int)<eA c n->F w [ii k]=w [ii (k+1)])->(∀w,F w [ii (eA c n)]=s [ii (j+1),.l ((hX c n).map aG)])->iter F rounds [ii 0]=s [ii (j+1),.l ((hX c n).map aG)]:=by
  intro c n j s hc hj F h1 h2
  have:=Fo c n
  exact yG (λk=>[ii k]) (eA c n) rfl (ek (by omega)) (λi hi w=>h1 i w hi) h2
 refine(kC l (λi c=>[ii i,.l (c.map aG)]) hX (λc=>some (aV ⟨a,b,l'.foldl hX c⟩)) [] (λi c=>c.Pairwise (· < ·)∧c.length<=i) rfl (ek (by omega)) ⟨.nil,by simp⟩ ?_ ?_).trans ?_
 ·intro i c hi hc
  have mI:=hc.2
  refine⟨⟨Mm hc.1 _,by have:=YW c (gt l i);omega⟩,λs=>?_⟩
  have hle:=Fo c (gt l i)
  obtain⟨c1,c2,c3⟩:=Oq hc.1 (gt l i)
  simp(disch:=omega) only[↓pQ,pS,↓reduceIte,ak,ap,aq,au,av,aw,ax,ay,az,wc,we,wg,wh,hi]
  refine one c (gt l i) i s (by omega) (by omega) ?_ ?_
  ·intro k w hk
   have fI:(k:Int)<c.length:=by omega
   have cJ:gt c (k:Int)<gt l i:=by rw[eS (by omega)];exact(c3 k (by omega)).2 (by omega)
   simp(disch:=omega) only[↓pQ,pS,↓reduceIte,ak,ap,aq,au,av,aw,ax,ay,az,wc,we,wg,wh,fI,cJ]
  ·intro w
   by_cases a_:eA c (gt l i)<c.length
   ·have fI:((eA c (gt l i):Nat):Int)<c.length:=by omega
    have cJ:¬(gt c ((eA c (gt l i):Nat):Int)<gt l i):=by rw[eS a_];intro rY;have:=(c3 _ a_).1 rY;omega
    have iz:=Mp hc.1 a_
    by_cases jI:gt l i∈c
    ·rw[Mo hc.1 jI]
     have pR:=iz.2 jI
     simp(disch:=omega) only[↓pQ,pS,↓reduceIte,ak,ap,aq,au,av,aw,ax,ay,az,wc,we,wg,wh,fI,cJ,pR]
    ·rw[Ot hc.1 jI]
     have pR:¬(gt c ((eA c (gt l i):Nat):Int)=gt l i):=λe=>jI (iz.1 e)
     simp(disch:=omega) only[↓pQ,pS,↓reduceIte,ak,ap,aq,au,av,aw,ax,ay,az,wc,we,wg,wh,fI,cJ,pR,sm _ (show(c.take (eA c (gt l i))).length<=1048576 by simp;omega)]
     rw[Ee (by simp;omega),eK,yl (by simp;omega),eK,List.append_assoc]
   ·have fI:¬(((eA c (gt l i):Nat):Int)<c.length):=by omega
    rw[Ot hc.1 (Mq hc.1 a_)]
    simp(disch:=omega) only[↓pQ,pS,↓reduceIte,ak,ap,aq,au,av,aw,ax,ay,az,wc,we,wg,wh,fI,sm _ (show(c.take (eA c (gt l i))).length<=1048576 by simp;omega)]
    rw[Ee (by simp;omega),eK,yl (by simp;omega),eK,List.append_assoc]
 ·intro c w hc
  simp(disch:=omega) only[↓pQ,pS,↓reduceIte,ak,ap,aq,au,av,aw,ax,ay,az,wc,we,wg,wh,]
  refine kC l' (λi c=>[ii i,.l (c.map aG)]) hX (λc=>some (aV ⟨a,b,c⟩)) c (λi c=>c.Pairwise (· < ·)∧c.length<=l.length+i) rfl (ek (by omega)) hc ?_ ?_
  ·intro i c hi hc
   have mI:=hc.2
   refine⟨⟨Mm hc.1 _,by have:=YW c (gt l' i);omega⟩,λs=>?_⟩
   have hle:=Fo c (gt l' i)
   obtain⟨c1,c2,c3⟩:=Oq hc.1 (gt l' i)
   simp(disch:=omega) only[↓pQ,pS,↓reduceIte,ak,ap,aq,au,av,aw,ax,ay,az,wc,we,wg,wh,hi]
   refine one c (gt l' i) i s (by omega) (by omega) ?_ ?_
   ·intro k w hk
    have fI:(k:Int)<c.length:=by omega
    have cJ:gt c (k:Int)<gt l' i:=by rw[eS (by omega)];exact(c3 k (by omega)).2 (by omega)
    simp(disch:=omega) only[↓pQ,pS,↓reduceIte,ak,ap,aq,au,av,aw,ax,ay,az,wc,we,wg,wh,fI,cJ]
   ·intro w
    by_cases a_:eA c (gt l' i)<c.length
    ·have fI:((eA c (gt l' i):Nat):Int)<c.length:=by omega
     have cJ:¬(gt c ((eA c (gt l' i):Nat):Int)<gt l' i):=by rw[eS a_];intro rY;have:=(c3 _ a_).1 rY;omega
     have iz:=Mp hc.1 a_
     by_cases jI:gt l' i∈c
     ·rw[Mo hc.1 jI]
      have pR:=iz.2 jI
      simp(disch:=omega) only[↓pQ,pS,↓reduceIte,ak,ap,aq,au,av,aw,ax,ay,az,wc,we,wg,wh,fI,cJ,pR]
     ·rw[Ot hc.1 jI]
      have pR:¬(gt c ((eA c (gt l' i):Nat):Int)=gt l' i):=λe=>jI (iz.1 e)
      simp(disch:=omega) only[↓pQ,pS,↓reduceIte,ak,ap,aq,au,av,aw,ax,ay,az,wc,we,wg,wh,fI,cJ,pR,sm _ (show(c.take (eA c (gt l' i))).length<=1048576 by simp;omega)]
      rw[Ee (by simp;omega),eK,yl (by simp;omega),eK,List.append_assoc]
    ·have fI:¬(((eA c (gt l' i):Nat):Int)<c.length):=by omega
     rw[Ot hc.1 (Mq hc.1 a_)]
     simp(disch:=omega) only[↓pQ,pS,↓reduceIte,ak,ap,aq,au,av,aw,ax,ay,az,wc,we,wg,wh,fI,sm _ (show(c.take (eA c (gt l' i))).length<=1048576 by simp;omega)]
     rw[Ee (by simp;omega),eK,yl (by simp;omega),eK,List.append_assoc]
  ·intro c w hc
   simp(disch:=omega) only[↓pQ,pS,↓reduceIte,ak,ap,aq,au,av,aw,ax,ay,az,wc,we,wg,wh,]
   rfl
 ·rfl
theorem apv{a b:Way}(h:fv a.aH)(h':fv b.aH):Fp a b=lM a b:=by
 unfold Fp lM
 obtain⟨q1,q2⟩:=YV h.2 YT
 obtain⟨q3,q4⟩:=YV h'.2 q1
 congr 3
 refine GZ q3.1 (Fk _ _).1 λx=>?_
 rw[q4,q2,Fl]
 constructor
 ·rintro((hx|hx)|hx)
  ·cases hx
  ·exact⟨h.2 x hx,.inl hx⟩
  ·exact⟨h'.2 x hx,.inr hx⟩
 ·rintro⟨_,hx|hx⟩
  ·exact .inl (.inr hx)
  ·exact .inr hx
theorem YX(a b:Int)(l:List Int)(a' b':Int)(l':List Int)(h:fv l)(h':fv l'):xD [ii a,ii b,.l (l.map aG),ii a',ii b',.l (l'.map aG)]=some (aV (lM ⟨a,b,l⟩ ⟨a',b',l'⟩)):=by
 rw[<-apv h h']
 exact apu a b l a' b' l' (by have:=rE h;omega) (by have:=rE h';omega)
theorem YY{α:Type} [Inhabited α]{enc:α->List T}{l:List α}{i off:Nat}{vs:List T}{x:α}(h:i<l.length)(hx:(enc (gt l i)).take off++vs++(enc (gt l i)).drop (off+vs.length)=enc x):setRow (l.map enc) i off vs=(l.set i x).map enc:=by
 unfold setRow
 refine List.ext_getElem (by simp) λj h1 h2=>?_
 simp only[List.getElem_modify,List.getElem_map,List.getElem_set]
 by_cases hj:i=j
 ·subst hj
  rw[if_pos rfl,if_pos rfl,<-hx,eS h]
 ·rw[if_neg hj,if_neg hj]
theorem A6{α:Type} [Inhabited α]{enc:α->List T}{sc:Bool}{w off m:Nat}{l:List α}{n:Int}{vs:List T}{x:α}(h:0<=n)(h':n<l.length)(hw:∀y,(enc y).length=w)(ho:off+m<=w)(hv:vs.length=m)(hs:(!sc||vs.all eh)=true)
  (hx:(enc (gt l n)).take off++vs++(enc (gt l n)).drop (off+vs.length)=enc x):Prim.ev (.put sc w off m) (.l (l.map enc)::ii n::vs)=some (.l ((l.set n.toNat x).map enc)):=by
 have hn:n.toNat<l.length:=by omega
 have e:n=((n.toNat:Nat):Int):=by omega
 have hg:=cD (enc:=enc) h h'
 rw[e]
 rw[I6 hg (hw _) ho hv hs,Int.toNat_natCast,YY hn (by rw[<-e];exact hx)]
theorem A7{l:List Int}{n x:Int}(h:0<=n)(h':n<l.length):Prim.ev (.put true 1 0 1) [.l (l.map aG),ii n,ii x]=some (.l ((l.set n.toNat x).map aG)):=
 A6 (enc:=aG) (x:=x) h h' (λ_=>rfl) (by decide) rfl rfl rfl
theorem apw{l:List Bool}{n:Int}{x:Bool}(h:0<=n)(h':n<l.length):Prim.ev (.put true 1 0 1) [.l (l.map fu),ii n,bb x]=some (.l ((l.set n.toNat x).map fu)):=
 A6 (enc:=fu) (x:=x) h h' (λ_=>rfl) (by decide) rfl rfl rfl
theorem apx{l:List Way}{n x:Int}(h:0<=n)(h':n<l.length):Prim.ev (.put true 3 0 1) [.l (l.map aV),ii n,ii x]=some (.l ((l.set n.toNat ⟨x,(gt l n).cost,(gt l n).aH⟩).map aV)):=
 A6 (enc:=aV) (x:=⟨x,(gt l n).cost,(gt l n).aH⟩) h h' (λ_=>rfl) (by decide) rfl rfl rfl
theorem xL{l:List Way}{n a b:Int}{c:List Int}(h:0<=n)(h':n<l.length):Prim.ev (.put false 3 0 3) [.l (l.map aV),ii n,ii a,ii b,.l (c.map aG)]=some (.l ((l.set n.toNat ⟨a,b,c⟩).map aV)):=
 A6 (enc:=aV) (x:=⟨a,b,c⟩) h h' (λ_=>rfl) (by decide) rfl rfl rfl
theorem apy{α:Type} [Inhabited α]{enc:α->List T}{ms:List Bool}{w off:Nat}{l:List α}{n:Int}{vs:List T}{x:α}(h:0<=n)(h':n<l.length)(hw:∀y,(enc y).length=w)(ho:off+vs.length<=w)(hs:uo ms vs=true)
  (hx:(enc (gt l n)).take off++vs++(enc (gt l n)).drop (off+vs.length)=enc x):Prim.ev (.gU ms w off) (.l (l.map enc)::ii n::vs)=some (.l ((l.set n.toNat x).map enc)):=by
 have hn:n.toNat<l.length:=by omega
 have hr:tM (.l (l.map enc)) (ii n)=some (enc (gt l n)):=Am h (cD (enc:=enc) h h')
 simp only[Prim.ev,hr,Option.bind_some,hw,if_true,if_pos ho,hs,T.rows,T.int]
 rw[YY hn (by rw[show((n.toNat:Nat):Int)=n by omega];exact hx)]
theorem Fq{l:List Way}{n a b:Int}{c:List Int}(h:0<=n)(h':n<l.length):Prim.ev (.gU [true,true,false] 3 0) [.l (l.map aV),ii n,ii a,ii b,.l (c.map aG)]=some (.l ((l.set n.toNat ⟨a,b,c⟩).map aV)):=
 apy (enc:=aV) (x:=⟨a,b,c⟩) h h' (λ_=>rfl) (by simp) rfl rfl
def fS{α:Type}(enc:α->List T)(l:List α)(i:Nat):List (List T):=List.replicate i []++(l.drop i).map enc
theorem apz{α:Type}{enc:α->List T}{l:List α}{i:Nat}(he:∀x,(enc x).isEmpty=false)(h:i<l.length):Prim.ev .wx [.l (fS enc l i),ii (i:Int)]=some (.l (fS enc l (i+1))):=by
 have hd:l.drop i=l[i]::l.drop (i+1):=List.drop_eq_getElem_cons h
 have hl:(fS enc l i).length=l.length:=by simp[fS];omega
 have hr:(fS enc l i).drop i=enc l[i]::(l.drop (i+1)).map enc:=by rw[fS,hd,List.drop_left' (by simp)];rfl
 have ht:(fS enc l i).take i=List.replicate i []:=by simp[fS]
 have pY:(fS enc l i).drop (i+1)=(l.drop (i+1)).map enc:=by rw[<-List.drop_drop,hr];rfl
 have hf:qH (fS enc l i) i 1=true:=by simp[qH,hr,he]
 have hg:xX (fS enc l i) i 1=fS enc l (i+1):=by rw[xX,ht,pY,fS,<-List.replicate_append_replicate]
 simp only[Prim.ev,Int.toNat_natCast,hl,hf,hg,if_true]
 rw[if_pos (by omega),if_pos (by omega)]
theorem YZ{α:Type}{enc:α->List T}{l:List α}{i m:Nat}{ys:List (List T)}(he:∀x,(enc x).isEmpty=false)(hm:ys.length=m)(h:i+m<=l.length):Prim.ev .kh [.l (fS enc l i),ii (i:Int),.l ys]=some (.l (fS enc l (i+m))):=by
 have hl:(fS enc l i).length=l.length:=by simp[fS];omega
 have hr:(fS enc l i).drop i=(l.drop i).map enc:=by simp[fS]
 have ht:(fS enc l i).take i=List.replicate i []:=by simp[fS]
 have pY:(fS enc l i).drop (i+m)=(l.drop (i+m)).map enc:=by rw[<-List.drop_drop,hr,<-List.map_drop,List.drop_drop]
 have hf:qH (fS enc l i) i m=true:=by
  simp only[qH,hr,List.all_eq_true]
  intro r hr
  obtain⟨x,_,rfl⟩:=List.mem_map.1 (List.mem_of_mem_take hr)
  simp[he]
 have hg:xX (fS enc l i) i m=fS enc l (i+m):=by rw[xX,ht,pY,fS,<-List.replicate_append_replicate]
 simp only[Prim.ev,Int.toNat_natCast,hl,hm,hf,hg,if_true]
 rw[if_pos (by omega),if_pos (by omega)]
theorem Mr{α:Type}{enc:α->List T}{l:List α}{k:Nat}(he:∀x,(enc x).isEmpty=false)(h:k<=l.length):Prim.ev .kh [.l (l.map enc),ii 0,.l ((l.take k).map enc)]=some (.l (fS enc l k)):=by
 have:=YZ (enc:=enc) (l:=l) (i:=0) (m:=k) (ys:=(l.take k).map enc) he (by simp;omega) (by omega)
 rw[Nat.zero_add]at this
 exact this
theorem Ms{α:Type}{enc:α->List T}{l:List α}{k:Nat}(he:∀x,(enc x).isEmpty=false)(h:k<=l.length):Prim.ev .kh [.l (fS enc l k),ii (k:Int),.l ((l.drop k).map enc)]=some (.l (fS enc l l.length)):=by
 have:=YZ (enc:=enc) (l:=l) (i:=k) (m:=l.length-k) (ys:=(l.drop k).map enc) he (by simp) (by omega)
 rw[show k+(l.length-k)=l.length by omega]at this
 exact this
def wl(l:List Int):List T:=[.l (l.map aG)]
theorem Ft{l:List (List Int)}{n:Int}(h:0<=n)(h':n<l.length):Prim.ev (.cell 1 0) [.l (l.map wl),ii n]=some (.l ((gt l n).map aG)):=fF h (cD h h') rfl rfl
theorem G4{l:List (List Int)}{n:Int}{c:List Int}(h:0<=n)(h':n<l.length):Prim.ev (.put false 1 0 1) [.l (l.map wl),ii n,.l (c.map aG)]=some (.l ((l.set n.toNat c).map wl)):=
 A6 (enc:=wl) (x:=c) h h' (λ_=>rfl) (by decide) rfl rfl rfl
theorem A8{α:Type}{enc:α->List T}{n:Nat}{x:α}{vs:List T}(h:n<4294967296)(hx:vs=enc x):Prim.ev .mk (ii (n:Int)::ii (n:Int)::vs)=some (.l ((List.replicate n x).map enc)):=by
 rw[RX (by unfold rL;exact h),hx,List.map_replicate]
theorem Mu{α:Type} [Inhabited α]{l:List α}{i j:Int}{x:α}(h:0<=i)(h':i<l.length)(hj:0<=j):gt (l.set i.toNat x) j=if i=j then x else gt l j:=by
 unfold gt
 simp only[List.getD_eq_getElem?_getD,List.getElem?_set]
 by_cases e:i=j
 ·subst e
  simp[show i.toNat<l.length by omega]
 ·have:¬(i.toNat=j.toNat):=by omega
  simp[e,this]
theorem Mw{α:Type} [Inhabited α]{n:Nat}{x:α}{j:Int}(h:0<=j)(h':j<n):gt (List.replicate n x) j=x:=by
 unfold gt
 simp only[List.getD_eq_getElem?_getD]
 rw[List.getElem?_replicate,if_pos (by omega)]
 rfl
def iv(s:List ah)(ar v:Int):Int:=eF (λx=>dX x ⟨ar,1,v,0,0,[],0,false⟩) s
def qE(s:List ah)(ar v:Int):List cn:=if iv s ar v<0 then []else(gt s (iv s ar v)).bd
def wm(l:List cn)(b:Int):Int:=if eF (λ(x:cn)=>x.to==b) l<0 then 0 else(gt l (eF (λ(x:cn)=>x.to==b) l)).cost
def qd(s:List ah)(ar a b:Int):Int:=wm (qE s ar a) b
def dx(s:List ah)(ar a b:Int):Int:=if qd s ar b a=0 then 0 else qd s ar a b
theorem G5(s:List ah)(ar v:Int):iv s ar v<s.length:=tv _ _
theorem Y0{s:List ah}(hn:bI s)(ar v:Int):(qE s ar v).length<=1048576:=by
 unfold qE
 split
 ·simp
 ·exact hn.gt (by omega) (G5 s ar v)
theorem apA(s:List ah)(ar a b:Int)(h:s.length<=1048576)(hn:bI s):AL [.l (s.map aC),ii ar,ii a,ii b]=some [ii (qd s ar a b)]:=by
 have h2:=G5 s ar a
 rw[aoz];simp(disch:=omega) only[↓pQ,pS,↓reduceIte,ak,ap,aq,au,av,aw,ax,ay,az,Yj,LR,Mh]
 rw[<-iv]
 unfold qd qE
 by_cases hk:iv s ar a<0
 ·simp only[hk,if_true];rfl
 ·have h3:0<=iv s ar a:=by omega
  have hl:=hn.gt h3 h2
  simp only[hk,if_false]
  simp(disch:=omega) only[↓pQ,pS,↓reduceIte,ak,ap,aq,au,av,aw,ax,ay,az,Yj,]
  refine(GD (gt s (iv s ar a)).bd (λi=>[ii 0,ii i]) (λx=>x.to==b) (λi=>some [ii (gt (gt s (iv s ar a)).bd i).cost]) (kY:=some [ii 0]) rfl (ek hl) ?_ ?_).trans ?_
  ·intro i hi q
   simp(disch:=omega) only[↓pQ,pS,↓reduceIte,ak,ap,aq,au,av,aw,ax,ay,az,Yj,hi]
  ·intro q
   simp(disch:=omega) only[↓pQ,pS,↓reduceIte,ak,ap,aq,au,av,aw,ax,ay,az,Yj,]
  ·unfold wm
   split<;>rfl
theorem Ca(s:List ah)(ar a b:Int)(h:s.length<=1048576)(hn:bI s):WL [.l (s.map aC),ii ar,ii a,ii b]=some [ii (dx s ar a b)]:=by
 rw[aoB];simp(disch:=omega) only[↓pQ,pS,↓reduceIte,ak,ap,aq,au,av,aw,ax,ay,az,LS,apA _ _ _ _ h hn]
 unfold dx
 split<;>rfl
theorem apB(s:List ah)(ar a:Int)(h:s.length<=1048576):B1 [.l (s.map aC),ii ar,ii a]=if iv s ar a<0 then some [ii 0,ii 0,ii 0,ii 0,ii 0,.l [],ii 0,bb false,bb false]else some (aC (gt s (iv s ar a))++[bb true]):=by
 have h2:=G5 s ar a
 rw[am0];simp(disch:=omega) only[↓pQ,pS,↓reduceIte,ak,ap,aq,au,av,aw,ax,ay,az,K6,Mi]
 rw[<-iv]
 by_cases hk:iv s ar a<0
 ·simp only[hk,if_true]
 ·have h3:0<=iv s ar a:=by omega
  simp only[hk,if_false]
  simp(disch:=omega) only[↓pQ,pS,↓reduceIte,ak,ap,aq,au,av,aw,ax,ay,az,]
  rfl
theorem Mx(s:List ah)(ar a:Int)(h:s.length<=1048576):∃c0 c1 c2 c3 c4 c6 c7:T,B1 [.l (s.map aC),ii ar,ii a]=some [c0,c1,c2,c3,c4,.l ((qE s ar a).map fk),c6,c7,bb (decide (0<=iv s ar a))]:=by
 rw[apB _ _ _ h]
 unfold qE
 by_cases hk:iv s ar a<0
 ·rw[if_pos hk,if_pos hk,show decide (0<=iv s ar a)=false by simp;omega];exact⟨_,_,_,_,_,_,_,rfl⟩
 ·rw[if_neg hk,if_neg hk,show decide (0<=iv s ar a)=true by simp;omega];exact⟨_,_,_,_,_,_,_,rfl⟩
theorem apC(s:List ah)(ar a b:Int)(h:s.length<=1048576)(hn:bI s):UH [.l (s.map aC),ii ar,ii a,ii b]=some [ii (qd s ar a b)]:=by
 obtain⟨c0,c1,c2,c3,c4,c6,c7,e⟩:=Mx s ar a h
 have hl:=Y0 hn ar a
 rw[am2];simp(disch:=omega) only[↓pQ,pS,↓reduceIte,ak,ap,aq,au,av,aw,ax,ay,az,u7_,K7,e]
 refine(GD (qE s ar a) (λi=>[ii 0,ii i]) (λx=>x.to==b) (λi=>some [ii (gt (qE s ar a) i).cost]) (kY:=some [ii 0]) rfl (ek hl) ?_ ?_).trans ?_
 ·intro i hi q
  simp(disch:=omega) only[↓pQ,pS,↓reduceIte,ak,ap,aq,au,av,aw,ax,ay,az,u7_,hi]
 ·intro q
  simp(disch:=omega) only[↓pQ,pS,↓reduceIte,ak,ap,aq,au,av,aw,ax,ay,az,u7_,]
 ·unfold qd wm
  split<;>rfl
theorem yH{s:List ah}(h:eJ s=true){r:ah}(hr:r∈s):fN r=true:=by
 simp only[eJ,bA]at h
 obtain⟨i,hi,rfl⟩:=List.mem_iff_getElem.1 hr
 have:=cq.1 h.2 i hi
 simp only[bA]at this
 rw[<-eS hi]
 exact this.1
theorem Ou{o:Int}{l:List cn}(h:vm o l=true){x:cn}(hx:x∈l):(1<=x.to∧x.to<=6)∧x.to≠o∧(1<=x.cost∧x.cost<=1000):=by
 obtain⟨i,hi,rfl⟩:=List.mem_iff_getElem.1 hx
 have:=cq.1 h i hi
 simp only[bA,bC,Bool.not_eq_true',decide_eq_false_iff_not]at this
 rw[<-eS hi]
 exact⟨this.1.1.1,this.1.1.2,this.1.2⟩
theorem Y5{o:Int}{l:List cn}(h:vm o l=true):l.Pairwise λa b=>a.to<b.to:=by
 have h:=cq.1 h
 rw[List.pairwise_iff_getElem]
 have step:∀i,(hi:i+1<l.length)->l[i].to<l[i+1].to:=by
  intro i hi
  have:=h (i+1) hi
  simp only[bA,Bool.or_eq_true,Bool.not_eq_true',decide_eq_false_iff_not,decide_eq_true_eq]at this
  have h2:=this.2.resolve_left (by omega)
  rwa[show(((i+1:Nat):Int)-1)=(i:Int) by omega,eS (by omega),eS hi]at h2
 intro i j hi hj vn
 obtain⟨d,rfl⟩:∃d,j=i+1+d:=⟨j-i-1,by omega⟩
 clear vn
 induction d with
 |zero=>exact step i (by omega)
 |succ d ih=>exact Int.lt_trans (ih (by omega)) (step (i+1+d) (by omega))
theorem Fu{s:List ah}(h:eJ s=true)(ar v:Int):vm v (qE s ar v)=true:=by
 unfold qE
 by_cases hk:iv s ar v<0
 ·rw[if_pos hk];simp[vm,nA]
 ·rw[if_neg hk]
  have hm:=j_ (l:=s) (n:=iv s ar v) (by omega) (G5 s ar v)
  have hr:=yH h hm
  have hs:=t_ (λx=>dX x ⟨ar,1,v,0,0,[],0,false⟩) s (by unfold iv at hk;omega)
  rw[<-iv]at hs
  rw[sameKey_iff]at hs
  obtain⟨_,h2,h3,_⟩:=hs
  simp only at h2 h3
  unfold fN at hr
  rw[h2]at hr
  simp only[if_true,bA]at hr
  have hq:=hr.2.1.1.2
  rw[h3]at hq
  exact hq
theorem Y7{l:List cn}{b:Int}(h:∀x∈l,x.to≠b):wm l b=0:=by
 unfold wm
 rw[if_pos]
 rw[BW]
 intro x hx
 simp[h x hx]
theorem apD{l:List cn}{b:Int}(h:wm l b≠0):∃x∈l,x.to=b∧x.cost=wm l b:=by
 unfold wm at h⊢
 split at h
 ·exact absurd rfl h
 ·rename_i hf
  rw[if_neg hf]
  have hs:=t_ (λ(y:cn)=>y.to==b) l (by omega)
  simp only[beq_iff_eq]at hs
  exact⟨_,j_ (by omega) (tv _ _),hs,rfl⟩
theorem Y9{s:List ah}(h:eJ s=true)(ar a b:Int):0<=qd s ar a b∧qd s ar a b<=1000:=by
 unfold qd
 by_cases h0:wm (qE s ar a) b=0
 ·rw[h0];omega
 ·obtain⟨x,hx,_,h2⟩:=apD h0
  have:=Ou (Fu h ar a) hx
  omega
theorem G6{s:List ah}(h:eJ s=true)(ar a b:Int):0<=dx s ar a b∧dx s ar a b<=1000:=by
 unfold dx
 split
 ·omega
 ·exact Y9 h ar a b
def Fv(s:List ah)(ar a:Int)(M:List Int)(x:cn):List Int:=if jr x.to 1 6=true∧qd s ar x.to a>0 then M.set (a*7+x.to).toNat x.cost else M
def xM(s:List ah)(ar:Int)(M:List Int)(i:Nat):List Int:=(qE s ar (i+1)).foldl (Fv s ar (i+1)) M
def A9(s:List ah)(ar:Int):List Int:=(List.range 6).foldl (xM s ar) (List.replicate 49 0)
theorem My(s:List ah)(ar a:Int)(M:List Int)(x:cn):(Fv s ar a M x).length=M.length:=by
 unfold Fv;split<;>simp
theorem Mz{α β:Type}{g:List α->β->List α}(h:∀M x,(g M x).length=M.length)(l:List β)(M:List α):(l.foldl g M).length=M.length:=by
 induction l generalizing M with
 |nil=>rfl
 |cons x l ih=>rw[List.foldl_cons,ih,h]
theorem MA(s:List ah)(ar:Int)(M:List Int)(i:Nat):(xM s ar M i).length=M.length:=Mz (My s ar _) _ _
theorem apE(s:List ah)(ar:Int):(A9 s ar).length=49:=by
 unfold A9
 rw[Mz (λM i=>MA s ar M i)]
 simp
theorem apF{s:List ah}(hs:eJ s=true)(ar:Int){a:Int}(ha:1<=a∧a<=6){u v:Int}(hu:1<=u∧u<=6)(hv:1<=v∧v<=6){o:Int}:∀(l:List cn) (M:List Int),vm o l=true∨(l.Pairwise (λa b=>a.to<b.to)∧∀x∈l,1<=x.to∧x.to<=6)->M.length=49->
  gt (l.foldl (Fv s ar a) M) (u*7+v)=if u=a∧qd s ar v a>0∧∃x∈l,x.to=v then wm l v else gt M (u*7+v):=by
 intro l M hl hM
 replace hl:l.Pairwise (λa b=>a.to<b.to)∧∀x∈l,1<=x.to∧x.to<=6:=by
  rcases hl with hl|hl
  ·exact⟨Y5 hl,λx hx=>(Ou hl hx).1⟩
  ·exact hl
 induction l generalizing M with
 |nil=>simp
 |cons y l ih=>
  have hp:=List.pairwise_cons.1 hl.1
  have hy:=hl.2 y (.head _)
  have hlen:=My s ar a M y
  rw[List.foldl_cons,ih (Fv s ar a M y) (by rw[hlen];exact hM) ⟨hp.2,λx hx=>hl.2 x (.tail _ hx)⟩]
  have wW:gt (Fv s ar a M y) (u*7+v)=if u=a∧v=y.to∧qd s ar y.to a>0 then y.cost else gt M (u*7+v):=by
   unfold Fv
   by_cases hc:jr y.to 1 6=true∧qd s ar y.to a>0
   ·rw[if_pos hc,Mu (by omega) (by omega) (by omega)]
    refine xy ⟨λh=>⟨by omega,by omega,hc.2⟩,λh=>by omega⟩ _ _
   ·rw[if_neg hc,if_neg (λh=>hc ⟨bC.2 hy,h.2.2⟩)]
  rw[wW]
  by_cases jI:∃x∈l,x.to=v
  ·obtain⟨x,hx,e⟩:=jI
   have dj:¬(v=y.to):=by have:=hp.1 x hx;omega
   have A_:wm (y::l) v=wm l v:=by
    unfold wm eF
    rw[List.findIdx?_cons]
    have:(y.to==v)=false:=by simp;omega
    rw[this]
    simp only[dI,if_false]
    cases hf:l.findIdx? (λ(z:cn)=>z.to==v)with
    |none=>rfl
    |some k=>
     show(if((k+1:Nat):Int)<0 then 0 else(gt (y::l) ((k+1:Nat):Int)).cost)=if(k:Int)<0 then 0 else(gt l (k:Int)).cost
     rw[if_neg (by omega),if_neg (by omega)]
     rfl
   by_cases wR:u=a∧qd s ar v a>0
   ·rw[if_pos ⟨wR.1,wR.2,x,hx,e⟩,if_pos ⟨wR.1,wR.2,x,.tail _ hx,e⟩,A_]
   ·rw[if_neg (λh=>wR ⟨h.1,h.2.1⟩),if_neg (λh=>dj h.2.1),if_neg (λh=>wR ⟨h.1,h.2.1⟩)]
  ·rw[if_neg (λh=>jI h.2.2)]
   by_cases hc:u=a∧v=y.to∧qd s ar y.to a>0
   ·rw[if_pos hc,if_pos ⟨hc.1,by rw[hc.2.1];exact hc.2.2,y,.head _,hc.2.1.symm⟩]
    unfold wm eF
    rw[List.findIdx?_cons]
    have:(y.to==v)=true:=by simp;omega
    rw[this]
    rfl
   ·rw[if_neg hc,if_neg]
    rintro⟨h1,h2,x,hx,e⟩
    rcases List.mem_cons.1 hx with rfl|hx
    ·exact hc ⟨h1,e.symm,by rw[e];exact h2⟩
    ·exact jI ⟨x,hx,e⟩
theorem apG{s:List ah}(hs:eJ s=true)(ar:Int){i:Nat}(hi:i<6){M:List Int}(hM:M.length=49){u v:Int}(hu:1<=u∧u<=6)(hv:1<=v∧v<=6)(h0:u=(i:Int)+1->gt M (u*7+v)=0):
  gt (xM s ar M i) (u*7+v)=if u=(i:Int)+1 then dx s ar u v else gt M (u*7+v):=by
 unfold xM
 rw[apF (o:=(i:Int)+1) hs ar (by omega) hu hv _ _ (.inl (Fu hs ar ((i:Int)+1))) hM]
 by_cases hc:u=(i:Int)+1
 ·rw[if_pos hc,h0 hc]
  unfold dx
  have hb:=Y9 hs ar v u
  by_cases h1:qd s ar v u=0
  ·rw[if_pos h1,if_neg]
   rintro⟨_,h2,_⟩
   rw[<-hc]at h2;omega
  ·rw[if_neg h1]
   by_cases h2:∃x∈qE s ar ((i:Int)+1),x.to=v
   ·rw[if_pos ⟨hc,by rw[<-hc];omega,h2⟩,<-hc];rfl
   ·rw[if_neg (λh=>h2 h.2.2)]
    unfold qd
    rw[Y7]
    intro x hx e
    exact h2 ⟨x,hc▸hx,e⟩
 ·rw[if_neg (λh=>hc h.1),if_neg hc]
theorem apH{s:List ah}(hs:eJ s=true)(ar:Int){u v:Int}(hu:1<=u∧u<=6)(hv:1<=v∧v<=6):gt (A9 s ar) (u*7+v)=dx s ar u v:=by
 have key:=NY (l:=List.range 6) (g:=xM s ar) (c:=List.replicate 49 0) (Inv:=λi M=>M.length=49∧∀u v:Int,(1<=u∧u<=6)->(1<=v∧v<=6)->gt M (u*7+v)=if u<(i:Int)+1 then dx s ar u v else 0)
  ⟨by simp,λu v hu hv=>by rw[Mw (by omega) (by omega),if_neg (by omega)]⟩ (λi M hi ⟨h1,h2⟩=>by
   have hl:(List.range 6).length=6:=List.length_range
   rw[hl]at hi
   rw[eS (by rw[hl];omega),List.getElem_range]
   refine⟨by rw[MA];exact h1,λu v hu hv=>?_⟩
   rw[apG hs ar (by omega) h1 hu hv (λe=>by rw[h2 u v hu hv,if_neg (by omega)]),h2 u v hu hv]
   by_cases hc:u=(i:Int)+1
   ·rw[if_pos hc,if_pos (by omega)]
   ·rw[if_neg hc]
    exact xy ⟨λh=>by omega,λh=>by omega⟩ _ _)
 have:=key.2 u v hu hv
 rw[List.length_range,if_pos (by omega)]at this
 exact this
theorem apI(s:List ah)(ar:Int)(h:s.length<=1048576)(hn:bI s)(hs:eJ s=true):UK [.l (s.map aC),ii ar]=some [.l ((A9 s ar).map aG)]:=by
 have e0:=A8 (enc:=aG) (n:=49) (x:=0) (vs:=[ii 0]) (by decide) rfl
 rw[am4];simp only[K8,SG]
 rw[show Prim.ev .mk [ii 49,ii 49,ii 0]=some (.l ((List.replicate 49 (0:Int)).map aG)) from e0,eK]
 refine rq 6 (λi M=>[ii (i+1),.l (M.map aG)]) (xM s ar) (λM=>some [T.l (M.map aG)]) (List.replicate 49 0) (λ_ M=>M.length=49) rfl (ek (by omega)) (by simp) ?_ ?_
 ·intro i M hi hM
  refine⟨by rw[MA];exact hM,λq=>?_⟩
  have dM:(i:Int)+1<=6:=by omega
  obtain⟨c0,c1,c2,c3,c4,c6,c7,e⟩:=Mx s ar ((i:Int)+1) h
  have hl:=Y0 hn ar ((i:Int)+1)
  simp(disch:=omega) only[↓pQ,pS,↓reduceIte,ak,ap,aq,au,av,aw,ax,ay,az,X_,X',dM,e]
  refine kC (qE s ar ((i:Int)+1)) (λj M=>[ii j,.l (M.map aG)]) (Fv s ar ((i:Int)+1)) (λM=>q [ii ((i+1:Nat)+1),.l (M.map aG)]) M (λ_ M=>M.length=49) rfl (ek hl) hM ?_ ?_
  ·intro j M hj hM
   refine⟨by rw[My];exact hM,λq=>?_⟩
   have ht:=Ou (Fu hs ar ((i:Int)+1)) (j_ (n:=j) (by omega) hj)
   unfold Fv
   have hb:jr (gt (qE s ar ((i:Int)+1)) j).to 1 6=true:=bC.2 ht.1
   simp(disch:=omega) only[↓pQ,pS,↓reduceIte,ak,ap,aq,au,av,aw,ax,ay,az,X_,X',hj,GW,hb,apC _ _ _ _ h hn,A7]
   simp only[true_and]
   by_cases hc:qd s ar (gt (qE s ar ((i:Int)+1)) j).to ((i:Int)+1)>0
   ·simp only[hc,if_true]
   ·simp only[hc,if_false]
  ·intro M q' hM
   simp(disch:=omega) only[↓pQ,pS,↓reduceIte,ak,ap,aq,au,av,aw,ax,ay,az,X_,X',]
 ·intro M q hM
  simp(disch:=omega) only[↓pQ,pS,↓reduceIte,ak,ap,aq,au,av,aw,ax,ay,az,X_,X',]
def sn{α:Type}(f:Nat->α):List α:=(List.range 7).map f
theorem A'{α:Type}(f:Nat->α):(sn f).length=7:=by simp[sn]
theorem MB{α:Type} [Inhabited α](f:Nat->α){v:Int}(h:0<=v)(h':v<7):gt (sn f) v=f v.toNat:=by
 obtain⟨n,rfl⟩:∃n:Nat,v=n:=⟨v.toNat,by omega⟩
 rw[eS (by rw[A'];omega)]
 simp[sn]
theorem Ov{α:Type}{f g:Nat->α}(h:∀i,i<7->f i=g i):sn f=sn g:=by
 unfold sn
 exact List.map_congr_left λi hi=>h i (by simpa using hi)
theorem Ba{α:Type}(f:Nat->α)(n:Nat)(x:α):(sn f).set n x=sn λi=>if i=n then x else f i:=by
 refine List.ext_getElem (by simp[sn]) λi h1 h2=>?_
 simp only[List.getElem_set,sn,List.getElem_map,List.getElem_range]
 by_cases h:n=i
 ·simp[h]
 ·rw[if_neg h,if_neg (λe=>h e.symm)]
def Cb(W:List Way)(D:List Int)(b:Int)(i:Nat):Int:=
 if¬((gt W ((i:Int)+1)).to=0)∧D.contains ((i:Int)+1)=false∧(b=0∨(gt W ((i:Int)+1)).cost<(gt W b).cost)then(i:Int)+1 else b
def dP(W:List Way)(D:List Int):Int:=(List.range 6).foldl (Cb W D) 0
def mm(s:List ah)(ar fr dY:Int)(W:List Way)(i:Nat):List Way:=
 if dx s ar dY ((i:Int)+1)=0∨(i:Int)+1=fr then W
 else if(gt W ((i:Int)+1)).to=0∨(gt W dY).cost+dx s ar dY ((i:Int)+1)<(gt W ((i:Int)+1)).cost then
  W.set (i+1) ⟨(i:Int)+1,(gt W dY).cost+dx s ar dY ((i:Int)+1),if dY=fr then [(i:Int)+1]else(gt W dY).aH⟩
 else if(gt W dY).cost+dx s ar dY ((i:Int)+1)=(gt W ((i:Int)+1)).cost then
  W.set (i+1) (lM (gt W ((i:Int)+1)) ⟨(i:Int)+1,(gt W dY).cost+dx s ar dY ((i:Int)+1),if dY=fr then [(i:Int)+1]else(gt W dY).aH⟩)
 else W
def oM(s:List ah)(ar fr dY:Int)(W:List Way):List Way:=(List.range 6).foldl (mm s ar fr dY) W
def sq(s:List ah)(ar fr:Int):Nat->List Way->List Int->List Way
 |0,W,_=>W
 |k+1,W,D=>if dP W D=0 then W else sq s ar fr k (oM s ar fr (dP W D) W) (D++[dP W D])
def tF:Way:=⟨0,0,[]⟩
def W0(fr:Int):List Way:=(List.replicate 7 tF).set fr.toNat ⟨fr,0,[]⟩
def xN(W:List Way):List Way:=W.filter λw=>!(w.to==0)
def aD(s:List ah)(ar fr:Int):List Way:=if eJ s=true∧jr fr 1 6=true∧0<=iv s ar fr then xN (sq s ar fr 6 (W0 fr) [])else []
structure mS (W:List Way) (c:Int):Prop where
 len:W.length=7
 aH:∀v:Int,0<=v->v<7->fv (gt W v).aH
 cost:∀v:Int,0<=v->v<7->0<=(gt W v).cost∧(gt W v).cost<=c
 to:∀v:Int,0<=v->v<7->(gt W v).to=0∨(gt W v).to=v
theorem mS.mono{W:List Way}{c c':Int}(h:mS W c)(hc:c<=c'):mS W c':=⟨h.len,h.aH,λv h1 h2=>by have:=h.cost v h1 h2;omega,h.to⟩
theorem sr{W:List Way}{i:Nat}{w:Way}{v:Int}(hl:W.length=7)(hi:i<6)(h0:0<=v):gt (W.set (i+1) w) v=if v=(i:Int)+1 then w else gt W v:=by
 have:=Mu (l:=W) (i:=(i:Int)+1) (j:=v) (x:=w) (by omega) (by omega) h0
 rw[show((i:Int)+1).toNat=i+1 by omega]at this
 rw[this]
 exact xy ⟨λh=>h.symm,λh=>h.symm⟩ _ _
theorem MC{a b:Way}(ha:fv a.aH)(hb:fv b.aH):fv (lM a b).aH:=by
 unfold lM
 split
 ·exact ha
 ·split
  ·exact hb
  ·exact Fk _ _
theorem Ow(a b:Way):(lM a b).cost=a.cost∨(lM a b).cost=b.cost:=by
 unfold lM
 split
 ·exact .inl rfl
 ·split
  ·exact .inr rfl
  ·exact .inl rfl
theorem vp{a b:Way}{n:Int}(ha:a.to=n)(hb:b.to=n):(lM a b).to=n:=by
 unfold lM
 split
 ·exact ha
 ·split
  ·exact hb
  ·exact ha
theorem Fw{s:List ah}(hs:eJ s=true)(ar a:Int):dx s ar a a=0:=by
 have:qd s ar a a=0:=by
  unfold qd
  refine Y7 λx hx=>?_
  exact(Ou (Fu hs ar a) hx).2.1
 unfold dx
 rw[this];rfl
theorem Fx{s:List ah}(hs:eJ s=true)(ar fr:Int){dY:Int}(ha:1<=dY∧dY<=6){W:List Way}{c:Int}(hc:0<=c)(h:mS W (c+1000))(bq:(gt W dY).cost<=c){i:Nat}(hi:i<6):
  mS (mm s ar fr dY W i) (c+1000)∧gt (mm s ar fr dY W i) dY=gt W dY:=by
 have hb:=G6 hs ar dY ((i:Int)+1)
 have hz:=h.cost dY (by omega) (by omega)
 have ho:=h.cost ((i:Int)+1) (by omega) (by omega)
 have r9:=h.aH ((i:Int)+1) (by omega) (by omega)
 have ib:fv (if dY=fr then [(i:Int)+1]else(gt W dY).aH):=by
  split
  ·exact G0 (by omega) (by omega)
  ·exact h.aH dY (by omega) (by omega)
 have wW:∀w:Way,w.to=(i:Int)+1->fv w.aH->0<=w.cost->w.cost<=c+1000->¬(dx s ar dY ((i:Int)+1)=0)->mS (W.set (i+1) w) (c+1000)∧gt (W.set (i+1) w) dY=gt W dY:=by
  intro w h1 h2 h3 h4 h5
  have dj:¬(dY=(i:Int)+1):=by intro e;rw[<-e,Fw hs]at h5;exact h5 rfl
  refine⟨⟨by simp[h.len],λv h6 h7=>?_,λv h6 h7=>?_,λv h6 h7=>?_⟩,?_⟩
  ·rw[sr h.len hi h6];split
   ·exact h2
   ·exact h.aH v h6 h7
  ·rw[sr h.len hi h6];split
   ·exact⟨h3,h4⟩
   ·exact h.cost v h6 h7
  ·rw[sr h.len hi h6];split
   ·rename_i e;rw[e,h1];exact .inr rfl
   ·exact h.to v h6 h7
  ·rw[sr h.len hi (by omega),if_neg dj]
 unfold mm
 by_cases h1:dx s ar dY ((i:Int)+1)=0∨(i:Int)+1=fr
 ·rw[if_pos h1];exact⟨h,rfl⟩
 rw[if_neg h1]
 by_cases h2:(gt W ((i:Int)+1)).to=0∨(gt W dY).cost+dx s ar dY ((i:Int)+1)<(gt W ((i:Int)+1)).cost
 ·rw[if_pos h2]
  exact wW _ rfl ib (by show 0<=(gt W dY).cost+_;omega) (by show(gt W dY).cost+_<=_;omega) (λe=>h1 (.inl e))
 rw[if_neg h2]
 by_cases h3:(gt W dY).cost+dx s ar dY ((i:Int)+1)=(gt W ((i:Int)+1)).cost
 ·rw[if_pos h3]
  have m6:=(h.to ((i:Int)+1) (by omega) (by omega)).resolve_left (λe=>h2 (.inl e))
  have htc:(lM (gt W ((i:Int)+1)) ⟨(i:Int)+1,(gt W dY).cost+dx s ar dY ((i:Int)+1),if dY=fr then [(i:Int)+1]else(gt W dY).aH⟩).cost=(gt W ((i:Int)+1)).cost:=by
   rcases Ow (gt W ((i:Int)+1)) ⟨(i:Int)+1,(gt W dY).cost+dx s ar dY ((i:Int)+1),if dY=fr then [(i:Int)+1]else(gt W dY).aH⟩with e|e
   ·exact e
   ·rw[e];exact h3
  exact wW _ (vp m6 rfl) (MC r9 ib) (by rw[htc];omega) (by rw[htc];omega) (λe=>h1 (.inl e))
 ·rw[if_neg h3];exact⟨h,rfl⟩
theorem apJ{s:List ah}(hs:eJ s=true)(ar fr:Int){dY:Int}(ha:1<=dY∧dY<=6){W:List Way}{c:Int}(hc:0<=c)(h:mS W c):mS (oM s ar fr dY W) (c+1000)∧gt (oM s ar fr dY W) dY=gt W dY:=by
 have hl:(List.range 6).length=6:=List.length_range
 exact NY (l:=List.range 6) (g:=mm s ar fr dY) (c:=W) (Inv:=λ_ W'=>mS W' (c+1000)∧gt W' dY=gt W dY) ⟨h.mono (by omega),rfl⟩ λi W' hi ⟨h1,h2⟩=>by
  rw[hl]at hi
  rw[eS (by rw[hl];omega),List.getElem_range]
  obtain⟨h3,h4⟩:=Fx hs ar fr ha hc h1 (by rw[h2];exact(h.cost dY (by omega) (by omega)).2) (show i<6 by omega)
  exact⟨h3,h4.trans h2⟩
theorem Bb(W:List Way)(D:List Int):(dP W D=0∧∀u:Int,1<=u->u<=6->(gt W u).to≠0->u∈D)∨
  ((1<=dP W D∧dP W D<=6)∧(gt W (dP W D)).to≠0∧dP W D∉D∧∀u:Int,1<=u->u<=6->(gt W u).to≠0->u∉D->(gt W (dP W D)).cost<=(gt W u).cost):=by
 have hl:(List.range 6).length=6:=List.length_range
 have key:=NY (l:=List.range 6) (g:=Cb W D) (c:=0) (Inv:=λi b=>(b=0∧∀u:Int,1<=u->u<=i->(gt W u).to≠0->u∈D)∨
  ((1<=b∧b<=i)∧(gt W b).to≠0∧b∉D∧∀u:Int,1<=u->u<=i->(gt W u).to≠0->u∉D->(gt W b).cost<=(gt W u).cost)) (.inl ⟨rfl,λu h1 h2=>by omega⟩) λi b hi hb=>by
   rw[hl]at hi
   rw[eS (by rw[hl];omega),List.getElem_range]
   unfold Cb
   have hD:∀x:Int,D.contains x=false↔x∉D:=λx=>by rw[<-Bool.not_eq_true,List.contains_iff_mem]
   by_cases hc:¬((gt W ((i:Int)+1)).to=0)∧D.contains ((i:Int)+1)=false∧(b=0∨(gt W ((i:Int)+1)).cost<(gt W b).cost)
   ·rw[if_pos hc]
    refine .inr ⟨by omega,hc.1,(hD _).1 hc.2.1,λu h1 h2 h3 h4=>?_⟩
    by_cases hu:u=(i:Int)+1
    ·rw[hu];exact Int.le_refl _
    ·rcases hb with⟨hb,nh⟩|⟨lI,nh,hb3,hb4⟩
     ·exact absurd (nh u h1 (by omega) h3) h4
     ·have:=hb4 u h1 (by omega) h3 h4
      rcases hc.2.2 with h5|h5
      ·omega
      ·omega
   ·rw[if_neg hc]
    rcases hb with⟨hb,nh⟩|⟨lI,nh,hb3,hb4⟩
    ·refine .inl ⟨hb,λu h1 h2 h3=>?_⟩
     by_cases hu:u=(i:Int)+1
     ·subst hu
      by_cases hm:(i:Int)+1∈D
      ·exact hm
      ·exact absurd ⟨h3,(hD _).2 hm,.inl hb⟩ hc
     ·exact nh u h1 (by omega) h3
    ·refine .inr ⟨by omega,nh,hb3,λu h1 h2 h3 h4=>?_⟩
     by_cases hu:u=(i:Int)+1
     ·subst hu
      have:¬((gt W ((i:Int)+1)).cost<(gt W b).cost):=λh5=>hc ⟨h3,(hD _).2 h4,.inr h5⟩
      omega
     ·exact hb4 u h1 (by omega) h3 h4
 rw[hl]at key
 exact key
structure hY (fr:Int) (W:List Way) (D:List Int):Prop where
 ok:mS W (1000*D.length)
 fr6:1<=fr∧fr<=6
 nd:D.Nodup
 mem:∀v∈D,(1<=v∧v<=6)∧(gt W v).to≠0
 mono:∀v∈D,∀u:Int,1<=u->u<=6->u∉D->(gt W u).to≠0->(gt W v).cost<=(gt W u).cost
 first:(D=[]∧∀u:Int,1<=u->u<=6->(gt W u).to≠0->u=fr)∨fr∈D
theorem apL{D l:List Int}(hn:D.Nodup)(hm:∀v∈D,v∈l):D.length<=l.length:=by
 induction D generalizing l with
 |nil=>simp
 |cons x D ih=>
  have hx:=List.nodup_cons.1 hn
  have hl:=List.length_erase_of_mem (hm x (.head _))
  have hp:0<l.length:=List.length_pos_of_mem (hm x (.head _))
  have:=ih (l:=l.erase x) hx.2 λv hv=>(List.mem_erase_of_ne (show v≠x fromλe=>hx.1 (e▸hv))).2 (hm v (.tail _ hv))
  simp only[List.length_cons];omega
theorem Y_{D:List Int}(hn:D.Nodup)(hm:∀v∈D,1<=v∧v<=6):D.length<=6:=
 apL (l:=vo) hn λv hv=>iZ.2 (hm v hv)
theorem tG{fr:Int}(h:1<=fr∧fr<=6){v:Int}(h0:0<=v)(h7:v<7):gt (W0 fr) v=if fr=v then⟨fr,0,[]⟩else tF:=by
 unfold W0
 rw[Mu (by omega) (by simp;omega) h0]
 split
 ·rfl
 ·exact Mw h0 (by omega)
theorem hY.start{fr:Int}(h:1<=fr∧fr<=6):hY fr (W0 fr) []:=by
 refine⟨⟨by simp[W0],λv h0 h7=>?_,λv h0 h7=>?_,λv h0 h7=>?_⟩,h,.nil,by simp,by simp,.inl ⟨rfl,λu h1 h2 h3=>?_⟩⟩
 ·rw[tG h h0 h7];split<;>exact YT
 ·rw[tG h h0 h7];split<;>simp[tF]
 ·rw[tG h h0 h7];split
  ·rename_i e;exact .inr e
  ·exact .inl rfl
 ·rw[tG h (by omega) (by omega)]at h3
  split at h3
  ·rename_i e;exact e.symm
  ·exact absurd rfl h3
theorem apM{s:List ah}(hs:eJ s=true)(ar fr:Int){dY:Int}(ha:1<=dY∧dY<=6){W:List Way}{c:Int}(hc:0<=c)(h:mS W c){v:Int}(hv:1<=v∧v<=6):
  gt (oM s ar fr dY W) v=gt W v∨((gt (oM s ar fr dY W) v).to=v∧v≠fr∧¬(dx s ar dY v=0)∧((gt W v).to=0∨(gt W dY).cost+dx s ar dY v<=(gt W v).cost)∧(gt (oM s ar fr dY W) v).cost=(gt W dY).cost+dx s ar dY v):=by
 have hl:(List.range 6).length=6:=List.length_range
 have key:=NY (l:=List.range 6) (g:=mm s ar fr dY) (c:=W) (Inv:=λi W'=>mS W' (c+1000)∧gt W' dY=gt W dY∧(∀u:Int,(i:Int)<u->u<=6->gt W' u=gt W u)∧∀u:Int,1<=u->u<=i->gt W' u=gt W u∨((gt W' u).to=u∧u≠fr∧¬(dx s ar dY u=0)∧((gt W u).to=0∨(gt W dY).cost+dx s ar dY u<=(gt W u).cost)∧(gt W' u).cost=(gt W dY).cost+dx s ar dY u))
  ⟨h.mono (by omega),rfl,λu _ _=>rfl,λu h1 h2=>by omega⟩ λi W' hi ⟨h1,h2,h3,h4⟩=>by
  rw[hl]at hi
  rw[eS (by rw[hl];omega),List.getElem_range]
  have m_:i<6:=by omega
  obtain⟨h5,h6⟩:=Fx hs ar fr ha hc h1 (by rw[h2];exact(h.cost dY (by omega) (by omega)).2) m_
  refine⟨h5,h6.trans h2,λu h7 h8=>?_,λu h7 h8=>?_⟩
  ·rw[<-h3 u (by omega) h8]
   unfold mm
   split
   ·rfl
   ·split
    ·rw[sr h1.len m_ (by omega),if_neg (by omega)]
    ·split
     ·rw[sr h1.len m_ (by omega),if_neg (by omega)]
     ·rfl
  ·by_cases hu:u=(i:Int)+1
   ·subst hu
    have hold:=h3 ((i:Int)+1) (by omega) (by omega)
    unfold mm
    rw[hold,h2]
    by_cases q1:dx s ar dY ((i:Int)+1)=0∨(i:Int)+1=fr
    ·rw[if_pos q1];exact .inl hold
    rw[if_neg q1]
    by_cases q2:(gt W ((i:Int)+1)).to=0∨(gt W dY).cost+dx s ar dY ((i:Int)+1)<(gt W ((i:Int)+1)).cost
    ·rw[if_pos q2,sr h1.len m_ (by omega),if_pos rfl]
     exact .inr ⟨rfl,λe=>q1 (.inr e),λe=>q1 (.inl e),q2.imp_right (λe=>by omega),rfl⟩
    rw[if_neg q2]
    by_cases q3:(gt W dY).cost+dx s ar dY ((i:Int)+1)=(gt W ((i:Int)+1)).cost
    ·rw[if_pos q3,sr h1.len m_ (by omega),if_pos rfl]
     have m6:=(h.to ((i:Int)+1) (by omega) (by omega)).resolve_left (λe=>q2 (.inl e))
     refine .inr ⟨vp m6 rfl,λe=>q1 (.inr e),λe=>q1 (.inl e),.inr (by omega),?_⟩
     ·rcases Ow (gt W ((i:Int)+1)) ⟨(i:Int)+1,(gt W dY).cost+dx s ar dY ((i:Int)+1),if dY=fr then [(i:Int)+1]else(gt W dY).aH⟩with e|e
      ·rw[e];omega
      ·rw[e]
    ·rw[if_neg q3];exact .inl hold
   ·have hk:gt (mm s ar fr dY W' i) u=gt W' u:=by
     unfold mm
     split
     ·rfl
     ·split
      ·rw[sr h1.len m_ (by omega),if_neg hu]
      ·split
       ·rw[sr h1.len m_ (by omega),if_neg hu]
       ·rfl
    rw[hk]
    exact h4 u h7 (by omega)
 rw[hl]at key
 exact key.2.2.2 v hv.1 hv.2
theorem hY.step{s:List ah}(hs:eJ s=true)(ar:Int){fr:Int}{W:List Way}{D:List Int}(h:hY fr W D)(hb:dP W D≠0):hY fr (oM s ar fr (dP W D) W) (D++[dP W D]):=by
 obtain⟨h1,h2,h3,h4⟩:=(Bb W D).resolve_left λe=>hb e.1
 have hc:(0:Int)<=1000*D.length:=by omega
 obtain⟨g1,g2⟩:=apJ hs ar fr h1 hc h.ok
 have uN:=λv hv=>apM hs ar fr h1 hc h.ok (v:=v) hv
 have hold:∀v∈D,gt (oM s ar fr (dP W D) W) v=gt W v:=by
  intro v hv
  rcases uN v (h.mem v hv).1 with e|⟨_,_,e1,e2,_⟩
  ·exact e
  ·have hm:=h.mono v hv _ h1.1 h1.2 h3 h2
   have hk:=G6 hs ar (dP W D) v
   rcases e2 with e2|e2
   ·exact absurd e2 (h.mem v hv).2
   ·omega
 refine⟨?_,h.fr6,?_,λv hv=>?_,λv hv u Nt wR hu3 hu4=>?_,?_⟩
 ·refine g1.mono ?_
  simp only[List.length_append,List.length_singleton,JE,JF];omega
 ·rw[List.nodup_append]
  exact⟨h.nd,by simp,by intro a ha b ji;rw[List.mem_singleton]at ji;subst ji;intro e;exact h3 (e▸ha)⟩
 ·rcases List.mem_append.1 hv with hv|hv
  ·rw[hold v hv];exact h.mem v hv
  ·rw[List.mem_singleton]at hv
   subst hv
   rw[g2];exact⟨h1,h2⟩
 ·have apN:u∉D∧u≠dP W D:=by simpa using hu3
  have hcv:(gt (oM s ar fr (dP W D) W) v).cost<=(gt W (dP W D)).cost:=by
   rcases List.mem_append.1 hv with hv|hv
   ·rw[hold v hv];exact h.mono v hv _ h1.1 h1.2 h3 h2
   ·rw[List.mem_singleton]at hv;subst hv;rw[g2];exact Int.le_refl _
  rcases uN u ⟨Nt,wR⟩with e|⟨_,_,_,_,e⟩
  ·rw[e]at hu4⊢
   have:=h4 u Nt wR hu4 apN.1
   omega
  ·have hk:=G6 hs ar (dP W D) u
   omega
 ·right
  rcases h.first with⟨e,hf⟩|hf
  ·rw[hf _ h1.1 h1.2 h2];simp
  ·simp[hf]
theorem hY.full{fr:Int}{W:List Way}{D:List Int}(h:hY fr W D)(hd:D.length=6):dP W D=0:=by
 rcases Bb W D with e|⟨h1,h2,h3,_⟩
 ·exact e.1
 ·have hn:(dP W D::D).Nodup:=List.nodup_cons.2 ⟨h3,h.nd⟩
  have:=Y_ hn λv hv=>by
   rcases List.mem_cons.1 hv with rfl|hv
   ·exact h1
   ·exact(h.mem v hv).1
  simp at this;omega
theorem hY.len{fr:Int}{W:List Way}{D:List Int}(h:hY fr W D):D.length<=6:=Y_ h.nd λv hv=>(h.mem v hv).1
theorem apO{s:List ah}(hs:eJ s=true){ar fr:Int}{F:af->af}(stf:List Way->List Int->List T)(out:List Way->List Int->Option (List T))
  (hF:∀W D q,hY fr W D->F q (stf W D)=if dP W D=0 then out W D else q (stf (oM s ar fr (dP W D) W) (D++[dP W D])))
  (fin:∀W D,hY fr W D->dP W D=0->out W D=some [.l ((xN W).map aV)]):
  ∀k W D R,hY fr W D->D.length+k=6->k<R->iter F R (stf W D)=some [.l ((xN (sq s ar fr k W D)).map aV)]:=by
 intro k
 induction k with
 |zero=>
  intro W D R h hk hR
  cases R with
  |zero=>omega
  |succ R=>
   have hb:=h.full (by omega)
   unfold iter
   rw[hF W D _ h,if_pos hb,fin W D h hb];rfl
 |succ k ih=>
  intro W D R h hk hR
  cases R with
  |zero=>omega
  |succ R=>
   unfold iter
   rw[hF W D _ h]
   by_cases hb:dP W D=0
   ·rw[if_pos hb,fin W D h hb]
    unfold sq
    rw[if_pos hb]
   ·rw[if_neg hb,ih _ _ R (h.step hs ar hb) (by simp;omega) (by omega)]
    conv=>rhs;unfold sq
    rw[if_neg hb]
theorem apQ(W:List Way):(xN W).length<=W.length:=List.length_filter_le _ _
set_option maxHeartbeats 1600000 in
theorem ME(s:List ah)(ar fr:Int)(h:s.length<=1048576)(hn:bI s):EH [.l (s.map aC),ii ar,ii fr]=some [.l ((aD s ar fr).map aV)]:=by
 have hP:=G5 s ar fr
 rw[aoH];simp(disch:=omega) only[↓pQ,pS,↓reduceIte,ak,ap,aq,au,av,aw,ax,ay,az,se,sf,sj,sk,LW,YH _ h hn,vl,Mh]
 rw[<-iv]
 unfold aD
 cases hs:eJ s with
 |false=>simp
 |true=>
 cases h6:jr fr 1 6 with
 |false=>simp
 |true=>
 have Y':=bC.1 h6
 by_cases hp:iv s ar fr<0
 ·have hq:¬(0<=iv s ar fr):=by omega
  simp[hp,hq]
 have hq:0<=iv s ar fr:=by omega
 rw[if_pos (show(true=true∧true=true∧0<=iv s ar fr) from⟨rfl,rfl,hq⟩)]
 have hm:=A8 (enc:=aV) (n:=7) (x:=tF) (vs:=[ii 0,ii 0,.l []]) (by decide) rfl
 have hl7:(List.replicate 7 tF).length=7:=by simp
 have a_:fr<((List.replicate 7 tF).length:Int):=by rw[hl7];omega
 have kj:Prim.ev (.put true 3 0 1) [.l ((List.replicate 7 tF).map aV),ii fr,ii fr]=some (.l ((W0 fr).map aV)):=by
  rw[apx (by omega) a_,Mw (by omega) (by omega)];rfl
 simp only[not_true_eq_false,if_false,hp]
 rw[show Prim.ev .mk [ii 7,ii 7,ii 0,ii 0,.l []]=some (.l ((List.replicate 7 tF).map aV)) from hm,eK,Jp (by omega) a_,eK,kj,eK]
 refine apO hs (λW D=>[.l (D.map aG),.l (W.map aV)]) (λW D=>some [.l ((xN W).map aV)]) ?_ (λW D _ _=>rfl) 6 (W0 fr) [] rounds (hY.start Y') rfl (by unfold rounds;omega)
 intro W D q hI
 simp(disch:=omega) only[↓pQ,pS,↓reduceIte,ak,ap,aq,au,av,aw,ax,ay,az,se,sf,sj,sk,]
 have hW:=hI.ok
 have Za:=hW.len
 have hD:=hI.len
 have hc:∀v:Int,0<=v->v<7->0<=(gt W v).cost∧(gt W v).cost<=6000:=λv h0 h1=>by have:=hW.cost v h0 h1;omega
 refine rq 6 (λi b=>[ii b,ii (i+1)]) (Cb W D) (λb=>if b=0 then some [T.l ((xN W).map aV)]else q [T.l ((D++[b]).map aG),T.l ((oM s ar fr b W).map aV)]) 0 (λi b=>0<=b∧b<=6∧((i:Int)<=6->b≠0->(gt W b).to≠0)) rfl (ek (by omega)) (by simp) ?_ ?_ |>.trans (by rfl)
 ·intro i b hi ⟨BL,Ox,kH⟩
  refine⟨?_,λw=>?_⟩
  ·unfold Cb
   split
   ·rename_i hx;exact⟨by omega,by omega,λ_ _=>hx.1⟩
   ·exact⟨BL,Ox,λh1=>kH (by omega)⟩
  ·have dM:(i:Int)+1<=6:=by omega
   simp(disch:=omega) only[↓pQ,pS,↓reduceIte,ak,ap,aq,au,av,aw,ax,ay,az,se,sf,sj,sk,dM,wj _ _ (show D.length<=1048576 by omega)]
   unfold Cb
   cases Cc:D.contains ((i:Int)+1)<;>by_cases q1:(gt W ((i:Int)+1)).to=0<;>by_cases q2:b=0<;>by_cases q3:(gt W ((i:Int)+1)).cost<(gt W b).cost<;>simp[q1,q2,q3]
 ·intro b w ⟨BL,Ox,kH⟩
  simp(disch:=omega) only[↓pQ,pS,↓reduceIte,ak,ap,aq,au,av,aw,ax,ay,az,se,sf,sj,sk,]
  by_cases hb:b=0
  ·simp only[hb,if_true]
   have hz:Prim.ev .len [.l (W.map aV)]=some (ii W.length):=SQ
   refine(kC W (λi c=>[.l (c.map aV),ii i,.l (fS aV W i)]) (λc w=>if(!(w.to==0))=true then c++[w]else c) (λc=>some [T.l (c.map aV)]) [] (λi c=>c.length<=i) rfl (ek (by omega)) (by simp) ?_ ?_).trans (by rw[TB,List.nil_append,<-xN])
   ·intro i c hi mI
    refine⟨by split<;>(try simp)<;>omega,λw=>?_⟩
    have dM:i<W.length:=by omega
    simp(disch:=omega) only[↓pQ,pS,↓reduceIte,ak,ap,aq,au,av,aw,ax,ay,az,se,sf,sj,sk,hi,apz (enc:=aV) (λ_=>rfl) dM]
    by_cases q1:(gt W (i:Int)).to=0<;>simp[q1]
   ·intro c w mI
    simp(disch:=omega) only[↓pQ,pS,↓reduceIte,ak,ap,aq,au,av,aw,ax,ay,az,se,sf,sj,sk,]
  ·simp only[hb,if_false]
   have lI:1<=b∧b<=6:=by omega
   refine rq 6 (λi W=>[ii (i+1),.l (W.map aV)]) (mm s ar fr b) (λW'=>q [T.l ((D++[b]).map aG),T.l (W'.map aV)]) W (λ_ W'=>mS W' (1000*D.length+1000)∧gt W' b=gt W b) rfl (ek (by omega)) ⟨hW.mono (by omega),rfl⟩ ?_ ?_
   ·intro i W' hi ⟨sa,nw⟩
    have n4:=hW.cost b (by omega) (by omega)
    have cf:=Fx hs ar fr lI (by omega) sa (by rw[nw];exact n4.2) (show i<6 by omega)
    refine⟨⟨cf.1,cf.2.trans nw⟩,λw=>?_⟩
    have dM:(i:Int)+1<=6:=by omega
    have jU:=sa.len
    have Nx:=G6 hs ar b ((i:Int)+1)
    have apS:=sa.cost b (by omega) (by omega)
    have apT:=sa.cost ((i:Int)+1) (by omega) (by omega)
    have Fy:=sa.aH b (by omega) (by omega)
    have r9:=sa.aH ((i:Int)+1) (by omega) (by omega)
    have hhl:=rE Fy
    have ib:fv (if b=fr then [(i:Int)+1]else(gt W' b).aH):=by
     split
     ·exact G0 (by omega) (by omega)
     ·exact Fy
    have qF:((i:Int)+1).toNat=i+1:=by omega
    have hT1:=λc=>YX (gt W' ((i:Int)+1)).to (gt W' ((i:Int)+1)).cost (gt W' ((i:Int)+1)).aH ((i:Int)+1) c [(i:Int)+1] r9 (G0 (by omega) (by omega))
    have hT2:=λc=>YX (gt W' ((i:Int)+1)).to (gt W' ((i:Int)+1)).cost (gt W' ((i:Int)+1)).aH ((i:Int)+1) c (gt W' b).aH r9 Fy
    unfold mm
    by_cases q1:dx s ar b ((i:Int)+1)=0
    ·simp(disch:=omega) only[↓pQ,pS,↓reduceIte,ak,ap,aq,au,av,aw,ax,ay,az,se,sf,sj,sk,dM,Ca _ _ _ _ h hn,q1,true_or]
    by_cases q2:(i:Int)+1=fr
    ·simp(disch:=omega) only[↓pQ,pS,↓reduceIte,ak,ap,aq,au,av,aw,ax,ay,az,se,sf,sj,sk,dM,Ca _ _ _ _ h hn,q1,eq_true q2,or_true]
    by_cases q3:b=fr
    ·have Fz:=eq_true q3
     by_cases q4:(gt W' ((i:Int)+1)).to=0
     ·simp(disch:=omega) only[↓pQ,pS,↓reduceIte,ak,ap,aq,au,av,aw,ax,ay,az,se,sf,sj,sk,dM,Ca _ _ _ _ h hn,q1,q2,Fz,q4,sm _ (show(gt W' b).aH.length<=1048576 by omega),xL,Fq,qF,true_or]
     by_cases q5:(gt W' b).cost+dx s ar b ((i:Int)+1)<(gt W' ((i:Int)+1)).cost
     ·simp(disch:=omega) only[↓pQ,pS,↓reduceIte,ak,ap,aq,au,av,aw,ax,ay,az,se,sf,sj,sk,dM,Ca _ _ _ _ h hn,q1,q2,Fz,q4,q5,sm _ (show(gt W' b).aH.length<=1048576 by omega),xL,Fq,qF,or_true]
     by_cases q6:(gt W' b).cost+dx s ar b ((i:Int)+1)=(gt W' ((i:Int)+1)).cost
     ·simp(disch:=omega) only[↓pQ,pS,↓reduceIte,ak,ap,aq,au,av,aw,ax,ay,az,se,sf,sj,sk,dM,Ca _ _ _ _ h hn,q1,q2,Fz,q4,q5,q6,sm _ (show(gt W' b).aH.length<=1048576 by omega),hT1,aV,xL,Fq,qF,or_self]
     ·simp(disch:=omega) only[↓pQ,pS,↓reduceIte,ak,ap,aq,au,av,aw,ax,ay,az,se,sf,sj,sk,dM,Ca _ _ _ _ h hn,q1,q2,Fz,q4,q5,q6,sm _ (show(gt W' b).aH.length<=1048576 by omega),or_self]
    ·have Fz:=eq_false q3
     by_cases q4:(gt W' ((i:Int)+1)).to=0
     ·simp(disch:=omega) only[↓pQ,pS,↓reduceIte,ak,ap,aq,au,av,aw,ax,ay,az,se,sf,sj,sk,dM,Ca _ _ _ _ h hn,q1,q2,Fz,q4,sm _ (show(gt W' b).aH.length<=1048576 by omega),xL,Fq,qF,true_or]
     by_cases q5:(gt W' b).cost+dx s ar b ((i:Int)+1)<(gt W' ((i:Int)+1)).cost
     ·simp(disch:=omega) only[↓pQ,pS,↓reduceIte,ak,ap,aq,au,av,aw,ax,ay,az,se,sf,sj,sk,dM,Ca _ _ _ _ h hn,q1,q2,Fz,q4,q5,sm _ (show(gt W' b).aH.length<=1048576 by omega),xL,Fq,qF,or_true]
     by_cases q6:(gt W' b).cost+dx s ar b ((i:Int)+1)=(gt W' ((i:Int)+1)).cost
     ·simp(disch:=omega) only[↓pQ,pS,↓reduceIte,ak,ap,aq,au,av,aw,ax,ay,az,se,sf,sj,sk,dM,Ca _ _ _ _ h hn,q1,q2,Fz,q4,q5,q6,sm _ (show(gt W' b).aH.length<=1048576 by omega),hT2,aV,xL,Fq,qF,or_self]
     ·simp(disch:=omega) only[↓pQ,pS,↓reduceIte,ak,ap,aq,au,av,aw,ax,ay,az,se,sf,sj,sk,dM,Ca _ _ _ _ h hn,q1,q2,Fz,q4,q5,q6,sm _ (show(gt W' b).aH.length<=1048576 by omega),or_self]
   ·intro W' w _
    simp(disch:=omega) only[↓pQ,pS,↓reduceIte,ak,ap,aq,au,av,aw,ax,ay,az,se,sf,sj,sk,]
theorem Bc:vo=(List.range 6).map λi:Nat=>(i:Int)+1:=rfl
theorem FA(a b:List Int)(ha:a.length<=1048576)(hb:b.length<=1048576):Ey [.l (a.map aG),.l (b.map aG)]=some [.l ((xK a b).map aG)]:=by
 rw[am8];simp(disch:=omega) only[↓pQ,pS,↓reduceIte,ak,ap,aq,au,av,aw,ax,ay,az,jD_,K_]
 refine(rq 6 (λi c=>[.l (c.map aG),ii (i+1)]) (λc i=>if(a.contains ((i:Int)+1)||b.contains ((i:Int)+1))=true then c++[(i:Int)+1]else c) (λc=>some [T.l (c.map aG)]) [] (λi c=>c.length<=i) rfl (ek (by omega)) (by simp) ?_ ?_).trans ?_
 ·intro i c hi hc
  refine⟨by split<;>(try simp)<;>omega,λq=>?_⟩
  have dM:(i:Int)+1<=6:=by omega
  cases h1:a.contains ((i:Int)+1)<;>cases h2:b.contains ((i:Int)+1)<;>simp(disch:=omega) only[↓pQ,pS,↓reduceIte,ak,ap,aq,au,av,aw,ax,ay,az,jD_,dM,YU _ _ ha,YU _ _ hb,h1,h2,Bool.or_true,Bool.or_false,dI]
 ·intro c q hc
  simp(disch:=omega) only[↓pQ,pS,↓reduceIte,ak,ap,aq,au,av,aw,ax,ay,az,jD_,]
 ·rw[JI (λi:Nat=>a.contains ((i:Int)+1)||b.contains ((i:Int)+1)) (λi:Nat=>(i:Int)+1),List.nil_append]
  unfold xK
  rw[Bc,List.filter_map]
  rfl
theorem apU(a b:Int)(t:T)(a' b':Int)(t':T):U0 [ii a,ii b,t,ii a',ii b',t']=some [bb (decide (b<b'))]:=by
 rw[anf];simp(disch:=omega) only[↓pQ,pS,↓reduceIte,ak,ap,aq,au,av,aw,ax,ay,az,Le]
theorem Zc(a b:Int)(l:List Int)(a' b':Int)(l':List Int)(h:l.length<=1048576)(h':l'.length<=1048576):JZ [ii a,ii b,.l (l.map aG),ii a',ii b',.l (l'.map aG)]=some (aV (lM ⟨a,b,l⟩ ⟨a',b',l'⟩)):=by
 rw[anh];simp(disch:=omega) only[↓pQ,pS,↓reduceIte,ak,ap,aq,au,av,aw,ax,ay,az,Lg,apU,Mk _ _ _ h,Mk _ _ _ h',FA _ _ h h']
 unfold lM
 by_cases h1:b<b'
 ·have h2:b'>b:=h1
  simp only[h1,h2,if_true];rfl
 ·have h2:¬(b'>b):=h1
  by_cases h3:b'<b
  ·have h4:b>b':=h3
   simp only[h1,h2,h3,h4,if_true,if_false];rfl
  ·have h4:¬(b>b'):=h3
   simp only[h1,h2,h3,h4,if_false];rfl
def rF(W:List Way):List Int:=sn λi=>if i=0 then 0 else if(gt W (i:Int)).to=0 then -1 else(gt W (i:Int)).cost
def uk(W:List Way):List (List Int):=sn λi=>(gt W (i:Int)).aH
def wo(D:List Int):List Bool:=sn λi=>D.contains (i:Int)
theorem Bd(W:List Way){v:Int}(h:1<=v)(h':v<=6):gt (rF W) v=if(gt W v).to=0 then -1 else(gt W v).cost:=by
 unfold rF
 rw[MB _ (by omega) (by omega),if_neg (by omega),show((v.toNat:Nat):Int)=v by omega]
theorem MF(W:List Way){v:Int}(h:0<=v)(h':v<=6):gt (uk W) v=(gt W v).aH:=by
 unfold uk
 rw[MB _ h (by omega),show((v.toNat:Nat):Int)=v by omega]
theorem MG(D:List Int){v:Int}(h:0<=v)(h':v<=6):gt (wo D) v=D.contains v:=by
 unfold wo
 rw[MB _ h (by omega),show((v.toNat:Nat):Int)=v by omega]
theorem MH(W:List Way):(rF W).length=7:=A' _
theorem MI(W:List Way):(uk W).length=7:=A' _
theorem MJ(D:List Int):(wo D).length=7:=A' _
theorem Be{W:List Way}(hl:W.length=7){i:Nat}(hi:i<6){w:Way}(ht:w.to≠0):rF (W.set (i+1) w)=(rF W).set (i+1) w.cost:=by
 unfold rF
 rw[Ba]
 refine Ov λj hj=>?_
 rw[sr hl hi (by omega)]
 by_cases h:j=i+1
 ·subst h
  simp[ht]
 ·rw[if_neg (show¬((j:Int)=(i:Int)+1) by omega),if_neg h]
theorem Oy{W:List Way}(hl:W.length=7){i:Nat}(hi:i<6)(w:Way):uk (W.set (i+1) w)=(uk W).set (i+1) w.aH:=by
 unfold uk
 rw[Ba]
 refine Ov λj hj=>?_
 rw[sr hl hi (by omega)]
 by_cases h:j=i+1
 ·subst h
  rw[if_pos (by simp),if_pos rfl]
 ·rw[if_neg (show¬((j:Int)=(i:Int)+1) by omega),if_neg h]
theorem Zd{W:List Way}(hl:W.length=7){i:Nat}(hi:i<6){w:Way}(ht:w.to≠0)(h0:(gt W ((i:Int)+1)).to≠0)(hc:w.cost=(gt W ((i:Int)+1)).cost):rF (W.set (i+1) w)=rF W:=by
 rw[Be hl hi ht]
 unfold rF
 rw[Ba]
 refine Ov λj hj=>?_
 by_cases h:j=i+1
 ·subst h
  rw[if_pos rfl,if_neg (by omega),if_neg (by simpa using h0),hc]
  simp
 ·rw[if_neg h]
theorem apV(D:List Int){b:Int}(h:1<=b)(h':b<=6):(wo D).set b.toNat true=wo (D++[b]):=by
 unfold wo
 rw[Ba]
 refine Ov λj hj=>?_
 by_cases e:j=b.toNat
 ·rw[if_pos e]
  have:(j:Int)=b:=by omega
  rw[this]
  simp
 ·rw[if_neg e]
  have:¬((j:Int)=b):=by omega
  rw[Bool.eq_iff_iff,List.contains_iff_mem,List.contains_iff_mem]
  simp[this]
theorem apW{W:List Way}(h:W.length=7):W=sn λi=>gt W (i:Int):=by
 refine List.ext_getElem (by rw[A',h]) λi h1 h2=>?_
 simp only[sn,List.getElem_map,List.getElem_range]
 rw[eS h1]
theorem apX{s:List ah}(hs:eJ s=true){ar fr:Int}{F:af->af}(st:Int->List Way->List Int->List T){out:List Way->Option (List T)}
  (hA:∀W D q,hY fr W D->D.length<6->dP W D=0->F q (st (D.length+1) W D)=q (st 7 W D))
  (hB:∀W D q,hY fr W D->D.length<6->dP W D≠0->F q (st (D.length+1) W D)=q (st (D.length+1+1) (oM s ar fr (dP W D) W) (D++[dP W D])))
  (fin:∀W D q,hY fr W D->dP W D=0->F q (st 7 W D)=out W):
  ∀k W D R,hY fr W D->D.length+k=6->k+1<R->iter F R (st (D.length+1) W D)=out (sq s ar fr k W D):=by
 intro k
 induction k with
 |zero=>
  intro W D R h hk hR
  cases R with
  |zero=>omega
  |succ R=>
   have hb:=h.full (by omega)
   unfold iter
   rw[show((D.length:Int)+1)=7 by omega]
   exact fin W D _ h hb
 |succ k ih=>
  intro W D R h hk hR
  cases R with
  |zero=>omega
  |succ R=>
   unfold iter
   by_cases hb:dP W D=0
   ·rw[hA W D _ h (by omega) hb]
    cases R with
    |zero=>omega
    |succ R=>
     unfold iter
     rw[fin W D _ h hb]
     unfold sq
     rw[if_pos hb]
   ·rw[hB W D _ h (by omega) hb]
    have:=ih _ _ R (h.step hs ar hb) (by simp;omega) (by omega)
    rw[show(((D++[dP W D]).length:Int)+1)=D.length+1+1 by simp]at this
    rw[this]
    conv=>rhs;unfold sq
    rw[if_neg hb]
theorem apY{W:List Way}{D:List Int}{fr:Int}(h:hY fr W D)(hb:dP W D=0):xN W=((List.range 6).filter λi:Nat=>D.contains ((i:Int)+1)).map λi:Nat=>(⟨(i:Int)+1,(gt W ((i:Int)+1)).cost,(gt W ((i:Int)+1)).aH⟩:Way):=by
 have hD:=((Bb W D).resolve_right λe=>by omega).2
 have e:W=gt W 0::(List.range 6).map λi:Nat=>gt W ((i:Int)+1):=(apW h.ok.len).trans rfl
 have h0:(gt W 0).to=0:=(h.ok.to 0 (by omega) (by omega)).elim id id
 have hf:xN W=(((List.range 6).map λi:Nat=>gt W ((i:Int)+1)).filter λw=>!(w.to==0)):=by
  unfold xN
  conv=>lhs;rw[e]
  rw[List.filter_cons,if_neg (by simp[h0])]
 rw[hf,List.filter_map]
 have hp:∀i:Nat,i∈List.range 6->((λw:Way=>!(w.to==0))∘λi:Nat=>gt W ((i:Int)+1)) i=D.contains ((i:Int)+1):=by
  intro i hi
  have hi:i<6:=by simpa using hi
  rw[Bool.eq_iff_iff,List.contains_iff_mem]
  simp only[Function.comp,Bool.not_eq_true',beq_eq_false_iff_ne]
  exact⟨λh1=>hD _ (by omega) (by omega) h1,λh1=>(h.mem _ h1).2⟩
 rw[List.filter_congr hp]
 refine List.map_congr_left λi hi=>?_
 obtain⟨h1,h2⟩:=List.mem_filter.1 hi
 have h1:i<6:=by simpa using h1
 have h3:=(h.mem _ (List.contains_iff_mem.1 h2)).2
 have h4:=(h.ok.to ((i:Int)+1) (by omega) (by omega)).resolve_left h3
 have hw:∀(w:Way) (n:Int),w.to=n->w=⟨n,w.cost,w.aH⟩:=by intro w n hn;subst hn;rfl
 exact hw _ _ h4
set_option maxHeartbeats 1600000 in
theorem MK(s:List ah)(ar fr:Int)(h:s.length<=1048576)(hn:bI s):Ez [.l (s.map aC),ii ar,ii fr]=some [.l ((aD s ar fr).map aV)]:=by
 obtain⟨c0,c1,c2,c3,c4,c6,c7,e⟩:=Mx s ar fr h
 rw[am_];simp(disch:=omega) only[↓pQ,pS,↓reduceIte,ak,ap,aq,au,av,aw,ax,ay,az,nI,nJ,nK,m9,nL,La,e,Fb _ h hn,GW]
 unfold aD
 cases hs:eJ s with
 |false=>simp
 |true=>
 cases h6:jr fr 1 6 with
 |false=>simp
 |true=>
 have Y':=bC.1 h6
 by_cases hq:0<=iv s ar fr
 case neg=>simp[hq]
 rw[if_pos (show(true=true∧true=true∧0<=iv s ar fr) from⟨rfl,rfl,hq⟩)]
 have m1:=A8 (enc:=aG) (n:=7) (x:=0) (vs:=[ii 0]) (by decide) rfl
 have m2:=A8 (enc:=wl) (n:=7) (x:=[]) (vs:=[.l []]) (by decide) rfl
 have m3:=A8 (enc:=fu) (n:=7) (x:=false) (vs:=[bb false]) (by decide) rfl
 simp only[not_true_eq_false,if_false,hq]
 rw[apI _ _ h hn hs,SH]
 rw[show Prim.ev .mk [ii 7,ii 7,ii 0]=some (.l ((List.replicate 7 (0:Int)).map aG)) from m1,eK,show Prim.ev .mk [ii 7,ii 7,.l []]=some (.l ((List.replicate 7 ([]:List Int)).map wl)) from m2,eK,
  show Prim.ev .mk [ii 7,ii 7,bb false]=some (.l ((List.replicate 7 false).map fu)) from m3,eK]
 have G7:∀w:List Int,fv w->Ey [.l [],.l (w.map aG)]=some [.l (w.map aG)]:=λw hw=>by
  have:=FA [] w (by simp) (by have:=rE hw;omega)
  rw[YS hw]at this
  exact this
 have hML:=apE s ar
 have sel:∀W D q,hY fr W D->D.length<6->m9 rounds Ey (ii fr) (T.l []) (T.l (List.map aG (A9 s ar))) q [ii (D.length+1),.l ((uk W).map wl),.l ((wo D).map fu),.l ((rF W).map aG)]=
   if dP W D=0 then q [ii 7,.l ((uk W).map wl),.l ((wo D).map fu),.l ((rF W).map aG)]
   else q [ii (D.length+1+1),.l ((uk (oM s ar fr (dP W D) W)).map wl),.l ((wo (D++[dP W D])).map fu),.l ((rF (oM s ar fr (dP W D) W)).map aG)]:=by
  intro W D q hI hD
  have hle:(D.length:Int)+1<=6:=by omega
  have hW:=hI.ok
  have Za:=hW.len
  have l1:=MJ D
  have l2:=MH W
  have l3:=MI W
  simp(disch:=omega) only[↓pQ,pS,↓reduceIte,ak,ap,aq,au,av,aw,ax,ay,az,nI,nJ,nK,m9,nL,hle]
  refine rq 6 (λi b=>[ii b,ii (i+1)]) (Cb W D) (λb=>if b=0 then q [ii 7,.l ((uk W).map wl),.l ((wo D).map fu),.l ((rF W).map aG)]
   else q [ii (D.length+1+1),.l ((uk (oM s ar fr b W)).map wl),.l ((wo (D++[b])).map fu),.l ((rF (oM s ar fr b W)).map aG)]) 0 (λi b=>b=(List.range i).foldl (Cb W D) 0∧0<=b∧b<=6∧(b≠0->(gt W b).to≠0)) rfl (ek (by omega)) (by simp) ?_ ?_
  ·intro i b hi ⟨yg,BL,Ox,kH⟩
   refine⟨⟨by rw[List.range_succ,List.foldl_append,<-yg];rfl,?_⟩,λw=>?_⟩
   ·unfold Cb
    split
    ·rename_i hx;exact⟨by omega,by omega,λ_=>hx.1⟩
    ·exact⟨BL,Ox,kH⟩
   ·have dM:(i:Int)+1<=6:=by omega
    have nX:=Bd W (v:=(i:Int)+1) (by omega) dM
    have fi:=MG D (v:=(i:Int)+1) (by omega) dM
    have hco:=hW.cost ((i:Int)+1) (by omega) (by omega)
    unfold Cb
    cases Cc:D.contains ((i:Int)+1)with
    |true=>simp(disch:=omega) only[↓pQ,pS,↓reduceIte,ak,ap,aq,au,av,aw,ax,ay,az,nI,nJ,nK,m9,nL,dM,fi,Cc];simp
    |false=>
     by_cases q1:(gt W ((i:Int)+1)).to=0
     ·simp(disch:=omega) only[↓pQ,pS,↓reduceIte,ak,ap,aq,au,av,aw,ax,ay,az,nI,nJ,nK,m9,nL,dM,fi,Cc,nX,q1,dI]
      simp
     ·have PM:(gt W ((i:Int)+1)).cost>=0:=hco.1
      by_cases q2:b=0
      ·simp(disch:=omega) only[↓pQ,pS,↓reduceIte,ak,ap,aq,au,av,aw,ax,ay,az,nI,nJ,nK,m9,nL,dM,fi,Cc,nX,q1,q2,PM,dI]
       simp
      ·have n4:=Bd W (v:=b) (by omega) Ox
       have pC:=kH q2
       by_cases q3:(gt W ((i:Int)+1)).cost<(gt W b).cost
       ·simp(disch:=omega) only[↓pQ,pS,↓reduceIte,ak,ap,aq,au,av,aw,ax,ay,az,nI,nJ,nK,m9,nL,dM,fi,Cc,nX,n4,pC,q1,q2,q3,PM,dI]
        simp
       ·simp(disch:=omega) only[↓pQ,pS,↓reduceIte,ak,ap,aq,au,av,aw,ax,ay,az,nI,nJ,nK,m9,nL,dM,fi,Cc,nX,n4,pC,q1,q2,q3,PM,dI]
        simp
  ·intro b w ⟨yg,BL,Ox,kH⟩
   by_cases hb:b=0
   ·simp(disch:=omega) only[↓pQ,pS,↓reduceIte,ak,ap,aq,au,av,aw,ax,ay,az,nI,nJ,nK,m9,nL,hb]
   have hbb:b=dP W D:=yg
   have lI:1<=b∧b<=6:=by omega
   obtain⟨g1,g2,g3,g4⟩:=(Bb W D).resolve_left λe=>hb (hbb.trans e.1)
   rw[<-hbb]at g1 g2 g3 g4
   have n4:=hW.cost b (by omega) (by omega)
   have l4:=MJ (D++[b])
   have apZ:fr∈D++[b]:=by
    rcases hI.first with⟨e,hf⟩|hf
    ·rw[hf b g1.1 g1.2 g2];simp
    ·simp[hf]
   simp(disch:=omega) only[↓pQ,pS,↓reduceIte,ak,ap,aq,au,av,aw,ax,ay,az,nI,nJ,nK,m9,nL,hb,apw,apV D lI.1 lI.2]
   refine rq 6 (λi W'=>[ii (i+1),.l ((uk W').map wl),.l ((rF W').map aG)]) (mm s ar fr b) (λW'=>q [ii (D.length+1+1),.l ((uk W').map wl),.l ((wo (D++[b])).map fu),.l ((rF W').map aG)]) W (λi W'=>mS W' (1000*D.length+1000)∧gt W' b=gt W b∧∀v∈D,gt W' v=gt W v) rfl (ek (by omega)) ⟨hW.mono (by omega),rfl,λ_ _=>rfl⟩ ?_ ?_
   ·intro i W' hi ⟨sa,nw,hgD⟩
    have m_:i<6:=by omega
    have cf:=Fx hs ar fr lI (by omega) sa (by rw[nw];exact n4.2) m_
    have dM:(i:Int)+1<=6:=by omega
    have jU:=sa.len
    have Nx:=G6 hs ar b ((i:Int)+1)
    have apS:=sa.cost b (by omega) (by omega)
    have apT:=sa.cost ((i:Int)+1) (by omega) (by omega)
    have Fy:=sa.aH b (by omega) (by omega)
    have r9:=sa.aH ((i:Int)+1) (by omega) (by omega)
    have hhl:=rE Fy
    have az0:=rE r9
    have l5:=MH W'
    have l6:=MI W'
    have hM:=apH hs ar (u:=b) (v:=(i:Int)+1) lI (by omega)
    have nX:=Bd W' (v:=(i:Int)+1) (by omega) dM
    have jm:=Bd W' (v:=b) lI.1 lI.2
    have pC:(gt W' b).to≠0:=by rw[nw];exact g2
    have fi:=MG (D++[b]) (v:=(i:Int)+1) (by omega) dM
    have tc:=MF W' (v:=(i:Int)+1) (by omega) dM
    have vL:=MF W' (v:=b) (by omega) lI.2
    have qF:((i:Int)+1).toNat=i+1:=by omega
    have m6:=sa.to ((i:Int)+1) (by omega) (by omega)
    have stay:((i:Int)+1∈D++[b])->dx s ar b ((i:Int)+1)≠0->mm s ar fr b W' i=W':=by
     intro hm dj
     unfold mm
     by_cases e:dx s ar b ((i:Int)+1)=0∨(i:Int)+1=fr
     ·rw[if_pos e]
     ·rw[if_neg e]
      rcases List.mem_append.1 hm with hm|hm
      ·have h1:=hgD _ hm
       have h2:=(hI.mem _ hm).2
       have h3:=hI.mono _ hm b g1.1 g1.2 g3 g2
       rw[h1,nw]
       rw[if_neg (by rintro(h4|h4);exact h2 h4;omega),if_neg (by omega)]
      ·rw[List.mem_singleton]at hm
       rw[hm,Fw hs]at dj
       exact absurd rfl dj
    refine⟨⟨cf.1,cf.2.trans nw,λv hv=>?_⟩,λw=>?_⟩
    ·rw[<-hgD v hv]
     by_cases e:v=(i:Int)+1
     ·by_cases e2:dx s ar b ((i:Int)+1)=0
      ·unfold mm;rw[if_pos (.inl e2)]
      ·rw[stay (List.mem_append.2 (.inl (e▸hv))) e2]
     ·have zA:=(hI.mem v hv).1
      unfold mm
      split
      ·rfl
      ·split
       ·rw[sr jU m_ (by omega),if_neg e]
       ·split
        ·rw[sr jU m_ (by omega),if_neg e]
        ·rfl
    by_cases q1:dx s ar b ((i:Int)+1)=0
    ·simp(disch:=omega) only[↓pQ,pS,↓reduceIte,ak,ap,aq,au,av,aw,ax,ay,az,nI,nJ,nK,m9,nL,dM,hM,q1]
     unfold mm
     rw[if_pos (.inl q1)]
    cases q2:(D++[b]).contains ((i:Int)+1)with
    |true=>
     rw[stay (List.contains_iff_mem.1 q2) q1]
     simp(disch:=omega) only[↓pQ,pS,↓reduceIte,ak,ap,aq,au,av,aw,ax,ay,az,nI,nJ,nK,m9,nL,dM,hM,q1,fi,q2]
    |false=>
     have q2':¬((i:Int)+1=fr):=λe=>by
      have:=List.contains_iff_mem.2 apZ
      rw[<-e,q2]at this;cases this
     by_cases q3:b=fr
     ·skip
      have kR:mm s ar fr b W' i=(if(gt W' ((i:Int)+1)).to=0∨(gt W' b).cost+dx s ar b ((i:Int)+1)<(gt W' ((i:Int)+1)).cost then W'.set (i+1) ⟨(i:Int)+1,(gt W' b).cost+dx s ar b ((i:Int)+1),[(i:Int)+1]⟩
       else if(gt W' b).cost+dx s ar b ((i:Int)+1)=(gt W' ((i:Int)+1)).cost then W'.set (i+1) (lM (gt W' ((i:Int)+1)) ⟨(i:Int)+1,(gt W' b).cost+dx s ar b ((i:Int)+1),[(i:Int)+1]⟩)else W'):=by
       unfold mm
       rw[if_neg (by rintro(h1|h1);exact q1 h1;exact q2' h1),if_pos q3]
      rw[kR]
      by_cases q4:(gt W' ((i:Int)+1)).to=0
      ·rw[if_pos (.inl q4),Oy jU m_,Be jU m_ (by show(i:Int)+1≠0;omega)]
       simp(disch:=omega) only[↓pQ,pS,↓reduceIte,ak,ap,aq,au,av,aw,ax,ay,az,nI,nJ,nK,m9,nL,dM,hM,q1,fi,q2,nX,jm,tc,vL,pC,eq_true q3,G7 _ (G0 (n:=(i:Int)+1) (by omega) (by omega)),A7,G4,qF,Ft,dI,q4]
      have D1:¬((gt W' ((i:Int)+1)).cost<0):=by omega
      by_cases q5:(gt W' b).cost+dx s ar b ((i:Int)+1)<(gt W' ((i:Int)+1)).cost
      ·rw[if_pos (.inr q5),Oy jU m_,Be jU m_ (by show(i:Int)+1≠0;omega)]
       simp(disch:=omega) only[↓pQ,pS,↓reduceIte,ak,ap,aq,au,av,aw,ax,ay,az,nI,nJ,nK,m9,nL,dM,hM,q1,fi,q2,nX,jm,tc,vL,pC,eq_true q3,G7 _ (G0 (n:=(i:Int)+1) (by omega) (by omega)),A7,G4,qF,Ft,dI,q4,D1,q5]
      rw[if_neg (by rintro(h1|h1);exact q4 h1;exact q5 h1)]
      by_cases q6:(gt W' b).cost+dx s ar b ((i:Int)+1)=(gt W' ((i:Int)+1)).cost
      ·have ML:lM (gt W' ((i:Int)+1)) ⟨(i:Int)+1,(gt W' b).cost+dx s ar b ((i:Int)+1),[(i:Int)+1]⟩=⟨(gt W' ((i:Int)+1)).to,(gt W' ((i:Int)+1)).cost,xK (gt W' ((i:Int)+1)).aH ([(i:Int)+1])⟩:=by
        unfold lM
        rw[if_neg (by show¬((gt W' b).cost+_>_);omega),if_neg (by show¬(_>(gt W' b).cost+_);omega)]
       rw[if_pos q6,ML,Oy jU m_,Zd (w:=⟨(gt W' ((i:Int)+1)).to,(gt W' ((i:Int)+1)).cost,xK (gt W' ((i:Int)+1)).aH [(i:Int)+1]⟩) jU m_ q4 q4 rfl]
       have hu:=FA (gt W' ((i:Int)+1)).aH ([(i:Int)+1]) (by omega) (by simp)
       have q5':¬((gt W' ((i:Int)+1)).cost<(gt W' ((i:Int)+1)).cost):=by omega
       simp(disch:=omega) only[↓pQ,pS,↓reduceIte,ak,ap,aq,au,av,aw,ax,ay,az,nI,nJ,nK,m9,nL,dM,hM,q1,fi,q2,nX,jm,tc,vL,pC,eq_true q3,G7 _ (G0 (n:=(i:Int)+1) (by omega) (by omega)),A7,G4,qF,Ft,dI,q4,D1,q5,q5',q6,hu]
      ·rw[if_neg q6]
       simp(disch:=omega) only[↓pQ,pS,↓reduceIte,ak,ap,aq,au,av,aw,ax,ay,az,nI,nJ,nK,m9,nL,dM,hM,q1,fi,q2,nX,jm,tc,vL,pC,eq_true q3,G7 _ (G0 (n:=(i:Int)+1) (by omega) (by omega)),A7,G4,qF,Ft,dI,q4,D1,q5,q6]
     ·skip
      have kR:mm s ar fr b W' i=(if(gt W' ((i:Int)+1)).to=0∨(gt W' b).cost+dx s ar b ((i:Int)+1)<(gt W' ((i:Int)+1)).cost then W'.set (i+1) ⟨(i:Int)+1,(gt W' b).cost+dx s ar b ((i:Int)+1),(gt W' b).aH⟩
       else if(gt W' b).cost+dx s ar b ((i:Int)+1)=(gt W' ((i:Int)+1)).cost then W'.set (i+1) (lM (gt W' ((i:Int)+1)) ⟨(i:Int)+1,(gt W' b).cost+dx s ar b ((i:Int)+1),(gt W' b).aH⟩)else W'):=by
       unfold mm
       rw[if_neg (by rintro(h1|h1);exact q1 h1;exact q2' h1),if_neg q3]
      rw[kR]
      by_cases q4:(gt W' ((i:Int)+1)).to=0
      ·rw[if_pos (.inl q4),Oy jU m_,Be jU m_ (by show(i:Int)+1≠0;omega)]
       simp(disch:=omega) only[↓pQ,pS,↓reduceIte,ak,ap,aq,au,av,aw,ax,ay,az,nI,nJ,nK,m9,nL,dM,hM,q1,fi,q2,nX,jm,tc,vL,pC,eq_false q3,G7 _ Fy,A7,G4,qF,Ft,dI,q4]
      have D1:¬((gt W' ((i:Int)+1)).cost<0):=by omega
      by_cases q5:(gt W' b).cost+dx s ar b ((i:Int)+1)<(gt W' ((i:Int)+1)).cost
      ·rw[if_pos (.inr q5),Oy jU m_,Be jU m_ (by show(i:Int)+1≠0;omega)]
       simp(disch:=omega) only[↓pQ,pS,↓reduceIte,ak,ap,aq,au,av,aw,ax,ay,az,nI,nJ,nK,m9,nL,dM,hM,q1,fi,q2,nX,jm,tc,vL,pC,eq_false q3,G7 _ Fy,A7,G4,qF,Ft,dI,q4,D1,q5]
      rw[if_neg (by rintro(h1|h1);exact q4 h1;exact q5 h1)]
      by_cases q6:(gt W' b).cost+dx s ar b ((i:Int)+1)=(gt W' ((i:Int)+1)).cost
      ·have ML:lM (gt W' ((i:Int)+1)) ⟨(i:Int)+1,(gt W' b).cost+dx s ar b ((i:Int)+1),(gt W' b).aH⟩=⟨(gt W' ((i:Int)+1)).to,(gt W' ((i:Int)+1)).cost,xK (gt W' ((i:Int)+1)).aH ((gt W' b).aH)⟩:=by
        unfold lM
        rw[if_neg (by show¬((gt W' b).cost+_>_);omega),if_neg (by show¬(_>(gt W' b).cost+_);omega)]
       rw[if_pos q6,ML,Oy jU m_,Zd (w:=⟨(gt W' ((i:Int)+1)).to,(gt W' ((i:Int)+1)).cost,xK (gt W' ((i:Int)+1)).aH (gt W' b).aH⟩) jU m_ q4 q4 rfl]
       have hu:=FA (gt W' ((i:Int)+1)).aH ((gt W' b).aH) (by omega) (by omega)
       have q5':¬((gt W' ((i:Int)+1)).cost<(gt W' ((i:Int)+1)).cost):=by omega
       simp(disch:=omega) only[↓pQ,pS,↓reduceIte,ak,ap,aq,au,av,aw,ax,ay,az,nI,nJ,nK,m9,nL,dM,hM,q1,fi,q2,nX,jm,tc,vL,pC,eq_false q3,G7 _ Fy,A7,G4,qF,Ft,dI,q4,D1,q5,q5',q6,hu]
      ·rw[if_neg q6]
       simp(disch:=omega) only[↓pQ,pS,↓reduceIte,ak,ap,aq,au,av,aw,ax,ay,az,nI,nJ,nK,m9,nL,dM,hM,q1,fi,q2,nX,jm,tc,vL,pC,eq_false q3,G7 _ Fy,A7,G4,qF,Ft,dI,q4,D1,q5,q6]
   ·intro W' w _
    simp(disch:=omega) only[↓pQ,pS,↓reduceIte,ak,ap,aq,au,av,aw,ax,ay,az,nI,nJ,nK,m9,nL,]
 refine rq 6 (λi c=>[ii (i+1),.l (c.map aG)]) (λc i=>c.set (i+1) (-1)) (λc=>if c=[0,-1,-1,-1,-1,-1,-1]then some [T.l ((xN (sq s ar fr 6 (W0 fr) [])).map aV)]else none) (List.replicate 7 0) (λi c=>c=(List.range i).foldl (λc i=>c.set (i+1) (-1)) (List.replicate 7 0)) rfl (ek (by omega)) rfl ?_ ?_ |>.trans (by rfl)
 ·intro i c hi hc
  have hl:c.length=7:=by rw[hc,Mz (λM x=>by simp)];simp
  have dM:(i:Int)+1<=6:=by omega
  have qF:((i:Int)+1).toNat=i+1:=by omega
  refine⟨by rw[List.range_succ,List.foldl_append,<-hc];rfl,λq=>?_⟩
  simp(disch:=omega) only[↓pQ,pS,↓reduceIte,ak,ap,aq,au,av,aw,ax,ay,az,nI,nJ,nK,m9,nL,dM,A7,qF]
 ·intro c q hc
  have hc:c=[0,-1,-1,-1,-1,-1,-1]:=hc
  rw[hc,if_pos rfl]
  have a_:fr<(([0,-1,-1,-1,-1,-1,-1]:List Int).length:Int):=by simp;omega
  have kj:Prim.ev (.put true 1 0 1) [.l (([0,-1,-1,-1,-1,-1,-1]:List Int).map aG),ii fr,ii 0]=some (.l ((rF (W0 fr)).map aG)):=by
   rw[A7 (by omega) a_]
   congr 3
   unfold rF
   rw[show([0,-1,-1,-1,-1,-1,-1]:List Int)=sn (λi=>if i=0 then 0 else -1) from rfl,Ba]
   refine Ov λi hi=>?_
   rw[tG Y' (by omega) (by omega)]
   by_cases e:i=fr.toNat
   ·have e1:fr=(i:Int):=by omega
    have e2:¬(i=0):=by omega
    rw[if_pos e,if_neg e2,if_pos e1]
    show(0:Int)=if fr=0 then -1 else 0
    rw[if_neg (by omega)]
   ·have e1:¬(fr=(i:Int)):=by omega
    rw[if_neg e,if_neg e1]
    by_cases e0:i=0
    ·rw[if_pos e0,if_pos e0]
    ·rw[if_neg e0,if_neg e0];rfl
  have hh:(List.replicate 7 ([]:List Int))=uk (W0 fr):=by
   show sn (λ_=>[])=_
   unfold uk
   refine Ov λi hi=>?_
   rw[tG Y' (by omega) (by omega)]
   split<;>rfl
  have m4:List.replicate 7 false=wo []:=rfl
  simp(disch:=omega) only[↓pQ,pS,↓reduceIte,ak,ap,aq,au,av,aw,ax,ay,az,nI,nJ,nK,m9,nL,kj,hh,m4]
  refine apX (s:=s) hs (ar:=ar) (fr:=fr) (λr W D=>[ii r,.l ((uk W).map wl),.l ((wo D).map fu),.l ((rF W).map aG)]) (out:=λW=>some [T.l ((xN W).map aV)]) ?_ ?_ ?_ 6 (W0 fr) [] rounds (hY.start Y') rfl (by unfold rounds;omega)
  ·intro W D q hI hD hb
   rw[sel W D q hI hD,if_pos hb]
  ·intro W D q hI hD hb
   rw[sel W D q hI hD,if_neg hb]
  ·intro W D q hI hb
   have l1:=MJ D
   have l2:=MH W
   have l3:=MI W
   simp(disch:=omega) only[↓pQ,pS,↓reduceIte,ak,ap,aq,au,av,aw,ax,ay,az,nI,nJ,nK,m9,nL,]
   refine(rq 6 (λi c=>[.l (c.map aV),ii (i+1)]) (λc i=>if D.contains ((i:Int)+1)=true then c++[⟨(i:Int)+1,(gt W ((i:Int)+1)).cost,(gt W ((i:Int)+1)).aH⟩]else c) (λc=>some [T.l (c.map aV)]) [] (λi c=>c.length<=i) rfl (ek (by omega)) (by simp) ?_ ?_).trans (by rw[JI (λi:Nat=>D.contains ((i:Int)+1)) (λi:Nat=>(⟨(i:Int)+1,(gt W ((i:Int)+1)).cost,(gt W ((i:Int)+1)).aH⟩:Way)),List.nil_append,<-apY hI hb])
   ·intro i c hi hc
    refine⟨by split<;>(try simp)<;>omega,λw=>?_⟩
    have dM:(i:Int)+1<=6:=by omega
    have fi:=MG D (v:=(i:Int)+1) (by omega) dM
    have nX:=Bd W (v:=(i:Int)+1) (by omega) dM
    have tc:=MF W (v:=(i:Int)+1) (by omega) dM
    have hhl:=rE (hI.ok.aH ((i:Int)+1) (by omega) (by omega))
    cases Cc:D.contains ((i:Int)+1)with
    |false=>simp(disch:=omega) only[↓pQ,pS,↓reduceIte,ak,ap,aq,au,av,aw,ax,ay,az,nI,nJ,nK,m9,nL,dM,fi,Cc,dI]
    |true=>
     have ht:=(hI.mem _ (List.contains_iff_mem.1 Cc)).2
     simp(disch:=omega) only[↓pQ,pS,↓reduceIte,ak,ap,aq,au,av,aw,ax,ay,az,nI,nJ,nK,m9,nL,dM,fi,Cc,nX,tc,ht,Ft]
   ·intro c w hc
    simp(disch:=omega) only[↓pQ,pS,↓reduceIte,ak,ap,aq,au,av,aw,ax,ay,az,nI,nJ,nK,m9,nL,]
theorem MM{α:Type}(key:α->Int):∀{a b:List α},a.Pairwise (λx y=>key x<key y)->b.Pairwise (λx y=>key x<key y)->(∀x,x∈a↔x∈b)->a=b
 | [],[],_,_,_=>rfl
 | [],y::b,_,_,h=>absurd ((h y).2 (.head _)) (by simp)
 |x::a,[],_,_,h=>absurd ((h x).1 (.head _)) (by simp)
 |x::a,y::b,ha,hb,h=>by
  have uj:=List.pairwise_cons.1 ha
  have ji:=List.pairwise_cons.1 hb
  have H_:x=y:=by
   rcases List.mem_cons.1 ((h x).1 (.head _))with e|e
   ·exact e
   ·rcases List.mem_cons.1 ((h y).2 (.head _))with e'|e'
    ·exact e'.symm
    ·have:=ji.1 x e;have:=uj.1 y e';omega
  subst H_
  have:a=b:=MM key uj.2 ji.2 λz=>by
   constructor
   ·intro hz
    rcases List.mem_cons.1 ((h z).1 (.tail _ hz))with e|e
    ·subst e;have:=uj.1 z hz;omega
    ·exact e
   ·intro hz
    rcases List.mem_cons.1 ((h z).2 (.tail _ hz))with e|e
    ·subst e;have:=ji.1 z hz;omega
    ·exact e
  rw[this]
def nP(o:Option Way)(w:Way):Option Way:=match o with|none=>some w|some b=>some (lM b w)
def jB(l:List Way):Option Way:=l.foldl nP none
theorem FB(l:List Way)(w:Way):jB (l++[w])=nP (jB l) w:=by simp[jB]
def MN(l:List Way)(b:Way):Prop:=fv b.aH∧(∃x∈l,x.cost=b.cost)∧(∀x∈l,b.cost<=x.cost)∧∀h,h∈b.aH↔∃x∈l,x.cost=b.cost∧h∈x.aH
theorem ap1{l:List Way}{b w:Way}(hl:∀x∈l,fv x.aH)(hw:fv w.aH)(h:MN l b):MN (l++[w]) (lM b w):=by
 obtain⟨h1,⟨x0,wZ,Qc⟩,h3,h4⟩:=h
 unfold lM
 by_cases q1:w.cost>b.cost
 ·rw[if_pos q1]
  refine⟨h1,⟨x0,by simp[wZ],Qc⟩,λx hx=>?_,λh=>?_⟩
  ·rcases List.mem_append.1 hx with hx|hx
   ·exact h3 x hx
   ·rw[List.mem_singleton]at hx;subst hx;omega
  ·rw[h4]
   constructor
   ·rintro⟨x,hx,e1,e2⟩;exact⟨x,by simp[hx],e1,e2⟩
   ·rintro⟨x,hx,e1,e2⟩
    rcases List.mem_append.1 hx with hx|hx
    ·exact⟨x,hx,e1,e2⟩
    ·rw[List.mem_singleton]at hx;subst hx;omega
 rw[if_neg q1]
 by_cases q2:b.cost>w.cost
 ·rw[if_pos q2]
  refine⟨hw,⟨w,by simp,rfl⟩,λx hx=>?_,λh=>?_⟩
  ·rcases List.mem_append.1 hx with hx|hx
   ·have:=h3 x hx;omega
   ·rw[List.mem_singleton]at hx;subst hx;omega
  ·constructor
   ·intro hh;exact⟨w,by simp,rfl,hh⟩
   ·rintro⟨x,hx,e1,e2⟩
    rcases List.mem_append.1 hx with hx|hx
    ·have:=h3 x hx;omega
    ·rw[List.mem_singleton]at hx;subst hx;exact e2
 rw[if_neg q2]
 have he:w.cost=b.cost:=by omega
 refine⟨Fk _ _,⟨x0,by simp[wZ],Qc⟩,λx hx=>?_,λh=>?_⟩
 ·rcases List.mem_append.1 hx with hx|hx
  ·exact h3 x hx
  ·rw[List.mem_singleton]at hx;subst hx;show b.cost<=_;omega
 ·show h∈xK b.aH w.aH↔_
  rw[Fl]
  constructor
  ·rintro⟨_,hh|hh⟩
   ·obtain⟨x,hx,e1,e2⟩:=(h4 h).1 hh
    exact⟨x,by simp[hx],e1,e2⟩
   ·exact⟨w,by simp,he,hh⟩
  ·rintro⟨x,hx,e1,e2⟩
   rcases List.mem_append.1 hx with hx|hx
   ·exact⟨(hl x hx).2 h e2,.inl ((h4 h).2 ⟨x,hx,e1,e2⟩)⟩
   ·rw[List.mem_singleton]at hx;subst hx
    exact⟨hw.2 h e2,.inr e2⟩
theorem G8{v:Int}:∀(n:Nat) (l:List Way),l.length=n->(∀x∈l,x.to=v∧fv x.aH)->(l=[]∧jB l=none)∨∃b,jB l=some b∧b.to=v∧MN l b:=by
 intro n
 induction n with
 |zero=>intro l hl _;exact .inl ⟨List.eq_nil_of_length_eq_zero hl,by rw[List.eq_nil_of_length_eq_zero hl];rfl⟩
 |succ n ih=>
  intro l hl hx
  right
  obtain⟨l',w,rfl⟩:∃l' w,l=l'++[w]:=⟨l.dropLast,l.getLast (by intro e;subst e;simp at hl),(List.dropLast_concat_getLast _).symm⟩
  have hw:=hx w (by simp)
  rw[FB]
  rcases ih l' (by simpa using hl) (λx h=>hx x (by simp[h]))with⟨rfl,e⟩|⟨b,e,hb,hB⟩
  ·rw[e]
   exact⟨w,rfl,hw.1,hw.2,⟨w,by simp,rfl⟩,by simp,λh=>by simp⟩
  ·rw[e]
   exact⟨lM b w,rfl,vp hb hw.1,ap1 (λx h=>(hx x (by simp[h])).2) hw.2 hB⟩
theorem Ze{v:Int}{l l':List Way}(h:∀x∈l,x.to=v∧fv x.aH)(h':∀x,x∈l↔x∈l'):jB l=jB l':=by
 have jU:∀x∈l',x.to=v∧fv x.aH:=λx hx=>h x ((h' x).2 hx)
 rcases G8 _ l rfl h with⟨e,e1⟩|⟨b,e1,hb,B⟩
 ·rcases G8 _ l' rfl jU with⟨e',e2⟩|⟨b',_,_,B'⟩
  ·rw[e1,e2]
  ·obtain⟨x,hx,_⟩:=B'.2.1
   have:=(h' x).2 hx
   rw[e]at this;cases this
 ·rcases G8 _ l' rfl jU with⟨e',e2⟩|⟨b',e2,ji,B'⟩
  ·obtain⟨x,hx,_⟩:=B.2.1
   have:=(h' x).1 hx
   rw[e']at this;cases this
  ·have hc:b.cost=b'.cost:=by
    obtain⟨x,hx,ex⟩:=B.2.1
    obtain⟨y,hy,ey⟩:=B'.2.1
    have h1:=B'.2.2.1 x ((h' x).1 hx)
    have h2:=B.2.2.1 y ((h' y).2 hy)
    omega
   have hh:b.aH=b'.aH:=GZ B.1.1 B'.1.1 λh=>by
    rw[B.2.2.2,B'.2.2.2,hc]
    exact⟨λ⟨x,hx,q⟩=>⟨x,(h' x).1 hx,q⟩,λ⟨x,hx,q⟩=>⟨x,(h' x).2 hx,q⟩⟩
   rw[e1,e2]
   congr 1
   cases b;cases b'
   simp only at hc hh hb ji
   subst hc hh hb ji
   rfl
def cp(C:List Way):List Way:=vo.filterMap λv=>jB (C.filter λw=>w.to==v)
theorem FC{C:List Way}(hC:∀x∈C,fv x.aH){x:Way}:x∈cp C↔(1<=x.to∧x.to<=6)∧jB (C.filter λw=>w.to==x.to)=some x:=by
 unfold cp
 rw[List.mem_filterMap]
 constructor
 ·rintro⟨v,hv,e⟩
  have hv:=iZ.1 hv
  rcases G8 (v:=v) _ (C.filter λw=>w.to==v) rfl (λy hy=>by have:=List.mem_filter.1 hy;exact⟨by simpa using this.2,hC y this.1⟩)with⟨_,e1⟩|⟨b,e1,hb,_⟩
  ·rw[e1]at e;cases e
  ·rw[e1]at e;cases e
   subst hb
   exact⟨hv,e1⟩
 ·rintro⟨h1,h2⟩
  exact⟨x.to,iZ.2 h1,h2⟩
theorem Bf(C:List Way)(hC:∀x∈C,fv x.aH):(cp C).Pairwise λa b=>a.to<b.to:=by
 unfold cp
 rw[List.pairwise_filterMap]
 refine rD.imp λ{a b} lT x hx y hy=>?_
 have key:∀(v:Int) (z:Way),jB (C.filter λw=>w.to==v)=some z->z.to=v:=by
  intro v z hz
  rcases G8 (v:=v) _ (C.filter λw=>w.to==v) rfl (λy hy=>by have:=List.mem_filter.1 hy;exact⟨by simpa using this.2,hC y this.1⟩)with⟨_,e1⟩|⟨b,e1,hb,_⟩
  ·rw[e1]at hz;cases hz
  ·rw[e1]at hz;cases hz;exact hb
 rw[key a x hx,key b y hy]
 exact lT
theorem Bg(C:List Way):(cp C).length<=6:=by
 unfold cp
 exact List.length_filterMap_le _ _
theorem Oz{C:List Way}(hC:∀x∈C,fv x.aH){x:Way}(hx:x∈cp C):fv x.aH∧∃y∈C,y.to=x.to∧y.cost=x.cost:=by
 have hm:=(FC hC).1 hx
 rcases G8 (v:=x.to) _ (C.filter λw=>w.to==x.to) rfl (λy hy=>by have:=List.mem_filter.1 hy;exact⟨by simpa using this.2,hC y this.1⟩)with⟨_,e1⟩|⟨b,e1,hb,B⟩
 ·rw[e1]at hm;cases hm.2
 ·rw[e1]at hm;cases hm.2
  obtain⟨y,hy,e⟩:=B.2.1
  have:=List.mem_filter.1 hy
  exact⟨B.1,y,this.1,by simpa using this.2,e⟩
def bS(l:List Way)(n:Int):Nat:=(l.filter (λx=>decide (x.to<n))).length
theorem FD(l:List Way)(n:Int):bS l n<=l.length:=List.length_filter_le _ _
theorem FE{l:List Way}(h:l.Pairwise λa b=>a.to<b.to)(n:Int):∀i,(hi:i<l.length)->(l[i].to<n↔i<bS l n):=by
 induction l with
 |nil=>simp
 |cons x c ih=>
  have hs:=List.pairwise_cons.1 h
  have i3:=ih hs.2
  by_cases hx:x.to<n
  ·have e:bS (x::c) n=bS c n+1:=by simp[bS,List.filter_cons,hx]
   rw[e]
   intro i hi
   cases i with
   |zero=>simp[hx]
   |succ i=>rw[List.getElem_cons_succ,i3 i (by simpa using hi)];omega
  ·have e1:(x::c).filter (λx=>decide (x.to<n))=[]:=by
    rw[List.filter_eq_nil_iff]
    intro y hy
    rcases List.mem_cons.1 hy with rfl|hy
    ·simp;omega
    ·have:=hs.1 y hy;simp;omega
   have e:bS (x::c) n=0:=by unfold bS;rw[e1];rfl
   rw[e]
   intro i hi
   refine⟨λh3=>?_,λh3=>absurd h3 (by omega)⟩
   cases i with
   |zero=>rw[List.getElem_cons_zero]at h3;omega
   |succ i=>
    rw[List.getElem_cons_succ]at h3
    have:=hs.1 _ (List.getElem_mem (by simpa using hi:i<c.length));omega
def rG(l:List Way)(w:Way):List Way:=
 if bS l w.to<l.length∧(gt l (bS l w.to:Nat)).to=w.to then l.set (bS l w.to) (lM (gt l (bS l w.to:Nat)) w)
 else l.take (bS l w.to)++([w]++l.drop (bS l w.to))
theorem Zf{C:List Way}(hC:∀x∈C,fv x.aH){w:Way}(hw:1<=w.to∧w.to<=6)(hh:fv w.aH):rG (cp C) w=cp (C++[w]):=by
 have hC':∀x∈C++[w],fv x.aH:=λx hx=>by
  rcases List.mem_append.1 hx with hx|hx
  ·exact hC x hx
  ·rw[List.mem_singleton]at hx;subst hx;exact hh
 have qe:=Bf C hC
 have kR:=FE qe w.to
 have hle:=FD (cp C) w.to
 have OA:=List.pairwise_iff_getElem.1 qe
 have hf:∀v:Int,(C++[w]).filter (λx=>x.to==v)=C.filter (λx=>x.to==v)++if w.to=v then [w]else []:=by
  intro v
  rw[List.filter_append,List.filter_cons]
  by_cases e:w.to=v<;>simp[e]
 refine MM Way.to ?_ (Bf _ hC') λx=>?_
 ·unfold rG
  split
  ·rename_i hc
   rw[List.pairwise_iff_getElem]
   intro i j hi hj vn
   simp only[List.length_set]at hi hj
   have m6:(lM (gt (cp C) (bS (cp C) w.to:Nat)) w).to=(cp C)[bS (cp C) w.to].to:=by
    rw[vp (n:=w.to) hc.2 rfl,<-eS hc.1,hc.2]
   simp only[List.getElem_set]
   have sJ:∀k (hk:k<(cp C).length),(if bS (cp C) w.to=k then lM (gt (cp C) (bS (cp C) w.to:Nat)) w else(cp C)[k]).to=(cp C)[k].to:=by
    intro k hk
    split
    ·rename_i e;subst e;exact m6
    ·rfl
   rw[sJ i hi,sJ j hj]
   exact OA i j hi hj vn
  ·rename_i hc
   rw[List.pairwise_append]
   refine⟨qe.sublist (List.take_sublist _ _),?_,?_⟩
   ·rw[List.singleton_append,List.pairwise_cons]
    refine⟨λy hy=>?_,qe.sublist (List.drop_sublist _ _)⟩
    obtain⟨i,hi,rfl⟩:=List.mem_iff_getElem.1 hy
    rw[List.getElem_drop]
    simp only[List.length_drop]at hi
    have h1:=mt (kR (bS (cp C) w.to) (by omega)).1 (by omega)
    have h2:¬((cp C)[bS (cp C) w.to].to=w.to):=λe=>hc ⟨by omega,by rw[eS (by omega)];exact e⟩
    rcases Nat.eq_zero_or_pos i with rfl|h3
    ·show w.to<(cp C)[bS (cp C) w.to].to;omega
    ·have:=OA (bS (cp C) w.to) (bS (cp C) w.to+i) (by omega) (by omega) (by omega);omega
   ·intro a ha b hb
    obtain⟨i,hi,rfl⟩:=List.mem_iff_getElem.1 ha
    rw[List.getElem_take]
    simp only[List.length_take]at hi
    have h1:=(kR i (by omega)).2 (by omega)
    rcases List.mem_append.1 hb with hb|hb
    ·rw[List.mem_singleton]at hb;subst hb;exact h1
    ·obtain⟨j,hj,rfl⟩:=List.mem_iff_getElem.1 hb
     rw[List.getElem_drop]
     simp only[List.length_drop]at hj
     exact OA i _ (by omega) (by omega) (by omega)
 ·rw[FC hC',hf]
  unfold rG
  by_cases hc:bS (cp C) w.to<(cp C).length∧(gt (cp C) (bS (cp C) w.to:Nat)).to=w.to
  ·rw[if_pos hc]
   have hold:gt (cp C) (bS (cp C) w.to:Nat)∈cp C:=j_ (by omega) (by omega)
   have ho:=(FC hC).1 hold
   rw[hc.2]at ho
   have ib:jB (C.filter (λx=>x.to==w.to)++[w])=some (lM (gt (cp C) (bS (cp C) w.to:Nat)) w):=by rw[FB,ho.2];rfl
   have kV:(lM (gt (cp C) (bS (cp C) w.to:Nat)) w).to=w.to:=vp hc.2 rfl
   constructor
   ·intro hx
    obtain⟨i,hi,rfl⟩:=List.mem_iff_getElem.1 hx
    rw[List.length_set]at hi
    rw[List.getElem_set]
    by_cases e:bS (cp C) w.to=i
    ·rw[if_pos e,kV,if_pos rfl]
     exact⟨hw,ib⟩
    ·rw[if_neg e]
     have dj:¬(w.to=(cp C)[i].to):=by
      rw[<-hc.2,eS hc.1]
      rcases Nat.lt_or_gt_of_ne e with h|h
      ·have:=OA _ _ hc.1 hi h;omega
      ·have:=OA _ _ hi hc.1 h;omega
     rw[if_neg dj,List.append_nil]
     exact(FC hC).1 (List.getElem_mem hi)
   ·rintro⟨h1,h2⟩
    by_cases e:w.to=x.to
    ·rw[if_pos e,<-e,ib]at h2
     cases h2
     exact List.mem_set hc.1 _
    ·rw[if_neg e,List.append_nil]at h2
     have hx:=(FC hC).2 ⟨h1,h2⟩
     obtain⟨i,hi,rfl⟩:=List.mem_iff_getElem.1 hx
     rw[List.mem_iff_getElem]
     refine⟨i,by simpa using hi,?_⟩
     rw[List.getElem_set,if_neg]
     rintro rfl
     rw[eS hi]at hc
     exact e hc.2.symm
  ·rw[if_neg hc]
   have BI:∀y∈cp C,y.to≠w.to:=by
    intro y hy e
    obtain⟨i,hi,rfl⟩:=List.mem_iff_getElem.1 hy
    have h1:=mt (kR i hi).2 (by omega)
    have h2:bS (cp C) w.to<(cp C).length:=by omega
    have h3:=mt (kR _ h2).1 (by omega)
    have h4:¬((cp C)[bS (cp C) w.to].to=w.to):=λe'=>hc ⟨h2,by rw[eS h2];exact e'⟩
    rcases Nat.eq_or_lt_of_le (show bS (cp C) w.to<=i by
     rcases Nat.lt_or_ge i (bS (cp C) w.to)with h5|h5
     ·have:=(kR i hi).2 h5;omega
     ·exact h5)with h5|h5
    ·simp only[h5]at h4;exact h4 e
    ·have:=OA _ _ h2 hi h5;omega
   have cQ:jB (C.filter λx=>x.to==w.to)=none:=by
    rcases G8 (v:=w.to) _ (C.filter λx=>x.to==w.to) rfl (λy hy=>by have:=List.mem_filter.1 hy;exact⟨by simpa using this.2,hC y this.1⟩)with⟨_,e1⟩|⟨b,e1,hb,_⟩
    ·exact e1
    ·exact absurd hb (BI b ((FC hC).2 ⟨by rw[hb];exact hw,by rw[hb];exact e1⟩))
   have ic:x∈(cp C).take (bS (cp C) w.to)++([w]++(cp C).drop (bS (cp C) w.to))↔x=w∨x∈cp C:=by
    conv=>rhs;rw[<-List.take_append_drop (bS (cp C) w.to) (cp C)]
    simp only[List.mem_append,List.mem_singleton]
    constructor
    ·rintro(h|h|h)
     ·exact .inr (.inl h)
     ·exact .inl h
     ·exact .inr (.inr h)
    ·rintro(h|h|h)
     ·exact .inr (.inl h)
     ·exact .inl h
     ·exact .inr (.inr h)
   rw[ic]
   constructor
   ·rintro(rfl|hx)
    ·rw[if_pos rfl,FB,cQ]
     exact⟨hw,rfl⟩
    ·rw[if_neg (λe=>BI x hx e.symm),List.append_nil]
     exact(FC hC).1 hx
   ·rintro⟨h1,h2⟩
    by_cases e:w.to=x.to
    ·rw[if_pos e,<-e,FB,cQ]at h2
     cases h2
     exact .inl rfl
    ·rw[if_neg e,List.append_nil]at h2
     exact .inr ((FC hC).2 ⟨h1,h2⟩)
end Go.Proofs.YtjimmglpkndemaaGreatC

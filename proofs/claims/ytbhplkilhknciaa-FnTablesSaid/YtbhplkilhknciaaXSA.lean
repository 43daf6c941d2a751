/- What the small functions compute: words, nets, records, stores. Conditions: none. -/
import Derived.Test.YtbhplkilhknciaaXGB
namespace Go.Proofs.YtbhplkilhknciaaC
open Int renaming reduceLE -> ah, reduceLT -> ai, reduceEq -> aj, reduceGT -> ak, reduceGE -> aq, reduceAdd -> au, reduceSub -> av, reduceMul -> aw, reduceNeg -> ax
set_option linter.unusedVariables false
set_option linter.unusedSimpArgs false
theorem rK(p:Prop) [Decidable p](x y:Bool):(if p then some [bb x]else some [bb y])=some [bb (if p then x else y)]:=by by_cases h:p<;>simp[h]
def jg(a lo hi:Int):Bool:=decide (lo<=a)&&decide (a<=hi)
theorem bU{a lo hi:Int}:jg a lo hi=true↔lo<=a∧a<=hi:=by simp[jg]
theorem AU(a lo hi:Int):np [ii a,ii lo,ii hi]=some [bb (jg a lo hi)]:=by
 rw[YH];simp(disch:=omega) only[↓pq,↓pj,ps,pz,↓reduceIte,ah,ai,aj,ak,aq,au,av,aw,ax,Dx,rK];unfold jg
 by_cases h:a>=lo<;>simp[h]<;>omega
def mF(n:Int)(l:bC):Bool:=jg n 1 6&&jg l.a 1 n&&jg l.b 1 n&&decide (l.a<l.b)&&jg l.cost 1 1000&&jg l.aC 0 2
theorem aa8(n a b c ar:Int):FB [ii n,ii a,ii b,ii c,ii ar]=some [bb (mF n ⟨a,b,c,ar⟩)]:=by
 rw[YJ];simp(disch:=omega) only[↓pq,↓pj,ps,pz,↓reduceIte,ah,ai,aj,ak,aq,au,av,aw,ax,Dy,AU,rK];unfold mF
 grind
def gT(x y:bC):Bool:=decide (x.a<y.a∨x.a=y.a∧(x.b<y.b∨x.b=y.b∧x.aC<y.aC))
theorem LP(a b c d a' b' c' d':Int):zj [ii a,ii b,ii c,ii d,ii a',ii b',ii c',ii d']=some [bb (gT ⟨a,b,c,d⟩ ⟨a',b',c',d'⟩)]:=by
 rw[X_];simp(disch:=omega) only[↓pq,↓pj,ps,pz,↓reduceIte,ah,ai,aj,ak,aq,au,av,aw,ax,X8,rK];unfold gT
 grind
def nO(x y:bO):Bool:=decide (x.key<y.key∨x.key=y.key∧x.owner<y.owner)
theorem LQ(a b c a' b' c':Int)(d d':Bool):zk [ii a,ii b,ii c,bb d,ii a',ii b',ii c',bb d']=some [bb (nO ⟨a,b,c,d⟩ ⟨a',b',c',d'⟩)]:=by
 rw[YA];simp(disch:=omega) only[↓pq,↓pj,ps,pz,↓reduceIte,ah,ai,aj,ak,aq,au,av,aw,ax,Yk,rK];unfold nO
 grind
def dJ{α:Type} [Inhabited α](ok:α->Bool)(lt:α->α->Bool)(l:List α):Bool:=
 pe l.length λi=>ok (gt l i)&&(!decide ((i:Int)>0)||lt (gt l (i-1:Int)) (gt l i))
def xl(n:Int)(t:bO):Bool:=jg t.owner 1 n&&jg t.key 1 9&&jg t.cost 1 1000
def qw(x:Net):Bool:=jg x.n 1 6&&decide (x.cX.length<=12)&&decide (x.eE.length<=4)&&dJ (mF x.n) gT x.cX&&dJ (xl x.n) nO x.eE
theorem LR(n:Int)(ls:List bC)(ts:List bO)(h1:ls.length<=1048576)(h2:ts.length<=1048576):FC [ii n,.l (ls.map fe),.l (ts.map fR)]=some [bb (qw ⟨n,ls,ts⟩)]:=by
 rw[YL];simp(disch:=omega) only[↓pq,↓pj,ps,pz,↓reduceIte,ah,ai,aj,ak,aq,au,av,aw,ax,Dz,DA,DB,AU]
 rw[show iter _ _ _=(some [bb (dJ (mF n) gT ls&&dJ (xl n) nO ts)]:Option (List T)) from ?_]
 ·simp(disch:=omega) only[↓pq,↓pj,ps,pz,↓reduceIte,ah,ai,aj,ak,aq,au,av,aw,ax,Dz,DA,rK];unfold qw;grind
 refine(Dk ls.length (λi=>[bb false,ii i]) (λi=>mF n (gt ls i)&&(!decide ((i:Int)>0)||gT (gt ls (i-1:Int)) (gt ls i))) (lK:=some [bb false]) (lJ:=some [bb (dJ (xl n) nO ts)]) ?_ ?_ (by unfold rounds;omega)).trans ?_
 ·intro i hi s
  simp(disch:=omega) only[↓pq,↓pj,ps,pz,↓reduceIte,ah,ai,aj,ak,aq,au,av,aw,ax,Dz,DA,hi,aa8,LP]
  grind
 ·intro s
  simp(disch:=omega) only[↓pq,↓pj,ps,pz,↓reduceIte,ah,ai,aj,ak,aq,au,av,aw,ax,Dz,DA,]
  refine(Dk ts.length (λi=>[bb false,ii i]) (λi=>xl n (gt ts i)&&(!decide ((i:Int)>0)||nO (gt ts (i-1:Int)) (gt ts i))) (lK:=some [bb false]) (lJ:=some [bb true]) ?_ ?_ (by unfold rounds;omega)).trans ?_
  ·intro i hi s
   simp(disch:=omega) only[↓pq,↓pj,ps,pz,↓reduceIte,ah,ai,aj,ak,aq,au,av,aw,ax,Dz,DA,hi,AU,LQ]
   unfold xl
   grind
  ·intro s
   simp(disch:=omega) only[↓pq,↓pj,ps,pz,↓reduceIte,ah,ai,aj,ak,aq,au,av,aw,ax,Dz,DA,]
  ·rw[rK];unfold dJ;simp
 ·rw[rK];unfold dJ;simp
def fE(a b ar:Int)(l:bC):Bool:=l.aC==ar&&(l.a==a&&l.b==b||l.a==b&&l.b==a)
theorem DX{α:Type}(p:α->Bool)(l:List α):(if eg p l<0 then some [ii (-1)]else some [ii (eg p l)])=some [ii (eg p l)]:=by
 have h:=WU p l
 by_cases h':eg p l<0
 ·rw[if_pos h',show eg p l=-1 by omega]
 ·rw[if_neg h']
def pN(ls:List bC)(a b ar:Int):Int:=if eg (fE a b ar) ls<0 then 0 else(gt ls (eg (fE a b ar) ls)).cost
theorem LS(t0 t2:T)(ls:List bC)(a b ar:Int)(h1:ls.length<=1048576):FD [t0,.l (ls.map fe),t2,ii a,ii b,ii ar]=some [ii (pN ls a b ar)]:=by
 rw[YN];simp(disch:=omega) only[↓pq,↓pj,ps,pz,↓reduceIte,ah,ai,aj,ak,aq,au,av,aw,ax,Om,DC]
 refine(Lk ls (λi=>[ii 0,ii i]) (fE a b ar) (λi=>some [ii (gt ls i).cost]) (lL:=some [ii 0]) ?_ ?_ (by unfold rounds;omega)).trans ?_
 ·intro i hi s
  simp(disch:=omega) only[↓pq,↓pj,ps,pz,↓reduceIte,ah,ai,aj,ak,aq,au,av,aw,ax,Om,hi]
  unfold fE
  grind
 ·intro s
  simp(disch:=omega) only[↓pq,↓pj,ps,pz,↓reduceIte,ah,ai,aj,ak,aq,au,av,aw,ax,Om,]
 ·unfold pN
  split<;>rfl
theorem LU{ls:List bC}{n:Int}(h:dJ (mF n) gT ls=true)(a b ar:Int):pN ls a b ar=0↔eg (fE a b ar) ls<0:=by
 unfold pN
 by_cases h':eg (fE a b ar) ls<0
 ·simp[h']
 ·rw[if_neg h']
  have hl:=tS (fE a b ar) ls
  have:=cY.1 h (eg (fE a b ar) ls).toNat (by omega)
  rw[show(((eg (fE a b ar) ls).toNat:Nat):Int)=eg (fE a b ar) ls by omega]at this
  simp only[bB,mF,bU]at this
  omega
def uL(o:Int)(l:List cF):Bool:=
 pe l.length λi=>jg (gt l i).to 1 6&& !decide ((gt l i).to=o)&&jg (gt l i).cost 1 1000&&(!decide ((i:Int)>0)||decide ((gt l (i-1:Int)).to<(gt l i).to))
theorem aa9(t0 t1:T)(o:Int)(t3 t4:T)(l:List cF)(t6 t7:T)(h:l.length<=1048576):FG [t0,t1,ii o,t3,t4,.l (l.map gD),t6,t7]=some [bb (uL o l)]:=by
 rw[Y_];simp(disch:=omega) only[↓pq,↓pj,ps,pz,↓reduceIte,ah,ai,aj,ak,aq,au,av,aw,ax,On,Y7]
 refine(Fu l.length (λi=>[bb false,ii i]) (λi=>jg (gt l i).to 1 6&& !decide ((gt l i).to=o)&&jg (gt l i).cost 1 1000&&(!decide ((i:Int)>0)||decide ((gt l (i-1:Int)).to<(gt l i).to))) (lK:=some [bb false]) (lJ:=some [bb true]) rfl (et h) ?_ ?_).trans (rK _ _ _ |>.trans (by unfold uL;simp))
 ·intro i hi s
  simp(disch:=omega) only[↓pq,↓pj,ps,pz,↓reduceIte,ah,ai,aj,ak,aq,au,av,aw,ax,On,hi,AU]
  grind
 ·intro s
  simp(disch:=omega) only[↓pq,↓pj,ps,pz,↓reduceIte,ah,ai,aj,ak,aq,au,av,aw,ax,On,]
def n6(r:aI):Bool:=
 jg r.owner 1 6&&jg r.seq 1 100000&&
 if r.kind=1 then jg r.aC 0 2&&decide (r.key=0)&&uL r.owner r.fU&&decide (r.cost=0)&& !r.jX
 else if r.kind=2 then jg r.aC 0 2&&jg r.key 1 6&&decide ((r.fU.length:Int)=0)&&jg r.cost 0 60000&& !r.jX
 else if r.kind=3 then decide (r.aC=9)&&jg r.key 1 9&&decide ((r.fU.length:Int)=0)&&(jg r.cost 1 1000||decide (r.cost=60000))
 else false
theorem aa_(a k o y s:Int)(l:List cF)(c:Int)(f:Bool)(h:l.length<=1048576):FH [ii a,ii k,ii o,ii y,ii s,.l (l.map gD),ii c,bb f]=some [bb (n6 ⟨a,k,o,y,s,l,c,f⟩)]:=by
 rw[Zc];simp(disch:=omega) only[↓pq,↓pj,ps,pz,↓reduceIte,ah,ai,aj,ak,aq,au,av,aw,ax,Y',AU,aa9,rK];unfold n6
 grind
def AV(a b:aI):Bool:=decide (a.aC=b.aC)&&(decide (a.kind=b.kind)&&(decide (a.owner=b.owner)&&decide (a.key=b.key)))
theorem aa'{a b:aI}:AV a b=true↔a.aC=b.aC∧a.kind=b.kind∧a.owner=b.owner∧a.key=b.key:=by simp[AV]
theorem abb(a k o y:Int)(s:T)(l c f:T)(a' k' o' y':Int)(s' l' c' f':T):FI [ii a,ii k,ii o,ii y,s,l,c,f,ii a',ii k',ii o',ii y',s',l',c',f']=some [bb (AV ⟨a,k,o,y,0,[],0,false⟩ ⟨a',k',o',y',0,[],0,false⟩)]:=by
 rw[Zi];simp(disch:=omega) only[↓pq,↓pj,ps,pz,↓reduceIte,ah,ai,aj,ak,aq,au,av,aw,ax,Zg,rK];unfold AV
 grind
def j7(a b:aI):Bool:=decide (a.aC<b.aC∨a.aC=b.aC∧(a.kind<b.kind∨a.kind=b.kind∧(a.owner<b.owner∨a.owner=b.owner∧a.key<b.key)))
theorem OE{a b:aI}:j7 a b=true↔a.aC<b.aC∨a.aC=b.aC∧(a.kind<b.kind∨a.kind=b.kind∧(a.owner<b.owner∨a.owner=b.owner∧a.key<b.key)):=by simp[j7]
theorem DY(a k o y:Int)(s:T)(l c f:T)(a' k' o' y':Int)(s' l' c' f':T):zl [ii a,ii k,ii o,ii y,s,l,c,f,ii a',ii k',ii o',ii y',s',l',c',f']=some [bb (j7 ⟨a,k,o,y,0,[],0,false⟩ ⟨a',k',o',y',0,[],0,false⟩)]:=by
 rw[YX];simp(disch:=omega) only[↓pq,↓pj,ps,pz,↓reduceIte,ah,ai,aj,ak,aq,au,av,aw,ax,DE,rK];unfold j7
 grind
theorem abd(a b:aI):j7 ⟨a.aC,a.kind,a.owner,a.key,0,[],0,false⟩ ⟨b.aC,b.kind,b.owner,b.key,0,[],0,false⟩=j7 a b:=rfl
def iO(s:List aI):Bool:=decide (s.length<=150)&&dJ n6 j7 s
def dj(s:List aI):Prop:=∀r∈s,r.fU.length<=1048576
theorem dj.gt{s:List aI}(h:dj s){n:Int}(h0:0<=n)(h1:n<s.length):(Go.Proofs.YtbhplkilhknciaaC.gt s n).fU.length<=1048576:=h _ (h_ h0 h1)
theorem OG(s:List aI)(h:s.length<=1048576)(hn:dj s):rG [.l (s.map bh)]=some [bb (iO s)]:=by
 rw[Zf];simp(disch:=omega) only[↓pq,↓pj,ps,pz,↓reduceIte,ah,ai,aj,ak,aq,au,av,aw,ax,Oo,Zd]
 by_cases h1:s.length<=150
 ·have h2:¬((s.length:Int)>150):=by omega
  simp only[h2,if_false]
  refine(Fu s.length (λi=>[bb false,ii i]) (λi=>n6 (gt s i)&&(!decide ((i:Int)>0)||j7 (gt s (i-1:Int)) (gt s i))) (lK:=some [bb false]) (lJ:=some [bb true]) rfl (et h) ?_ ?_).trans (rK _ _ _ |>.trans (by unfold iO dJ;grind))
  ·intro i hi s1
   have:=hn.gt (n:=i) (by omega) hi
   simp(disch:=omega) only[↓pq,↓pj,ps,pz,↓reduceIte,ah,ai,aj,ak,aq,au,av,aw,ax,Oo,hi,aa_,DY,abd]
   grind
  ·intro s1
   simp(disch:=omega) only[↓pq,↓pj,ps,pz,↓reduceIte,ah,ai,aj,ak,aq,au,av,aw,ax,Oo,]
 ·have h2:((s.length:Int)>150):=by omega
  unfold iO
  simp[h2,h1]
def sG(a b:List Int):Bool:=decide ((a.length:Int)=b.length)&&pe a.length λi=>decide (gt a i=gt b i)
theorem gq{a b:List Int}:sG a b=true↔a=b:=by
 simp only[sG,bB,decide_eq_true_eq,cY]
 constructor
 ·rintro⟨h1,h2⟩
  refine List.ext_getElem (by omega) λi hi hj=>?_
  have:=h2 i hi
  rwa[gC hi,gC hj]at this
 ·rintro rfl
  exact⟨rfl,λ_ _=>rfl⟩
theorem jT_(a b:List Int)(h:a.length<=1048576):xi [.l (a.map aA),.l (b.map aA)]=some [bb (sG a b)]:=by
 rw[aaC];simp(disch:=omega) only[↓pq,↓pj,ps,pz,↓reduceIte,ah,ai,aj,ak,aq,au,av,aw,ax,OB,jI_]
 by_cases hl:(a.length:Int)=b.length
 ·simp only[hl,not_true_eq_false,if_false]
  refine(Fu a.length (λi=>[bb false,ii i]) (λi=>decide (gt a i=gt b i)) (lK:=some [bb false]) (lJ:=some [bb true]) rfl (et h) ?_ ?_).trans (rK _ _ _ |>.trans (by unfold sG;simp[hl]))
  ·intro i hi s
   have bR:=hl▸hi
   simp(disch:=omega) only[↓pq,↓pj,ps,pz,↓reduceIte,ah,ai,aj,ak,aq,au,av,aw,ax,OB,hi,bR]
   grind
  ·intro s
   simp(disch:=omega) only[↓pq,↓pj,ps,pz,↓reduceIte,ah,ai,aj,ak,aq,au,av,aw,ax,OB,hl]
 ·unfold sG;simp[hl]
theorem qh_(a b:List Int)(h:a.length<=1048576):zu [.l (a.map aA),.l (b.map aA)]=some [bb (sG a b)]:=by
 rw[aaU];simp(disch:=omega) only[↓pq,↓pj,ps,pz,↓reduceIte,ah,ai,aj,ak,aq,au,av,aw,ax,OC,qn_]
 by_cases hl:(a.length:Int)=b.length
 ·simp only[hl,not_true_eq_false,if_false]
  refine(Fu a.length (λi=>[bb false,ii i]) (λi=>decide (gt a i=gt b i)) (lK:=some [bb false]) (lJ:=some [bb true]) rfl (et h) ?_ ?_).trans (rK _ _ _ |>.trans (by unfold sG;simp[hl]))
  ·intro i hi s
   have bR:=hl▸hi
   simp(disch:=omega) only[↓pq,↓pj,ps,pz,↓reduceIte,ah,ai,aj,ak,aq,au,av,aw,ax,OC,hi,bR]
   grind
  ·intro s
   simp(disch:=omega) only[↓pq,↓pj,ps,pz,↓reduceIte,ah,ai,aj,ak,aq,au,av,aw,ax,OC,hl]
 ·unfold sG;simp[hl]
structure LV (ns:List Node):Prop where
 len:∀n∈ns,n.self.store.length<=1048576
 fU:∀n∈ns,dj n.self.store
 heard:∀n∈ns,n.self.heard.length<=1048576
theorem abg(a k o y s:Int)(l:List cF)(c:Int)(f:Bool)(h:l.length<=1048576):FT [ii a,ii k,ii o,ii y,ii s,.l (l.map gD),ii c,bb f]=some [ii a,ii k,ii o,ii y,ii s,.l (l.map gD),ii c,bb f]:=by
 rw[Z3];simp(disch:=omega) only[↓pq,↓pj,ps,pz,↓reduceIte,ah,ai,aj,ak,aq,au,av,aw,ax,Z1]
def abh(ar:Int)(r:aI):Bool:=r.aC==ar||r.aC==9
def scope(s:List aI)(ar:Int):List aI:=s.filter (abh ar)
theorem abi(s:List aI)(a k o y:Int)(t4 t5 t6 t7:T)(h:s.length<=1048576):FJ [.l (s.map bh),ii a,ii k,ii o,ii y,t4,t5,t6,t7]=some [ii (eg (λx=>AV x ⟨a,k,o,y,0,[],0,false⟩) s)]:=by
 rw[Zk];simp(disch:=omega) only[↓pq,↓pj,ps,pz,↓reduceIte,ah,ai,aj,ak,aq,au,av,aw,ax,Oq,DH]
 refine(Fv s (λi=>[ii 0,ii i]) (λx=>AV x ⟨a,k,o,y,0,[],0,false⟩) (λi=>some [ii i]) (lL:=some [ii (-1)]) rfl (et h) ?_ ?_).trans (DX _ _)
 ·intro i hi q
  simp(disch:=omega) only[↓pq,↓pj,ps,pz,↓reduceIte,ah,ai,aj,ak,aq,au,av,aw,ax,Oq,hi,abb]
  rfl
 ·intro q
  simp(disch:=omega) only[↓pq,↓pj,ps,pz,↓reduceIte,ah,ai,aj,ak,aq,au,av,aw,ax,Oq,]
theorem abj(s:List aI)(h:s.length<=1048576)(hn:dj s):FU [.l (s.map bh)]=some [.l (s.map bh)]:=by
 rw[Z6];simp(disch:=omega) only[↓pq,↓pj,ps,pz,↓reduceIte,ah,ai,aj,ak,aq,au,av,aw,ax,Ox,Z4]
 refine(jz s (λi c=>[.l (c.map bh),ii i]) (λc a=>c++[id a]) (λc=>some [T.l (c.map bh)]) [] (λi c=>c.length<=i) rfl (et h) (by simp) ?_ ?_).trans (show some [T.l ((s.foldl (λc a=>c++[id a]) []).map bh)]=some [T.l (s.map bh)] by rw[N_];simp)
 ·intro i c hi hc
  refine⟨by simp;omega,λk=>?_⟩
  have:=hn.gt (n:=i) (by omega) hi
  simp(disch:=omega) only[↓pq,↓pj,ps,pz,↓reduceIte,ah,ai,aj,ak,aq,au,av,aw,ax,Ox,hi,abg]
  rfl
 ·intro c k hc
  simp(disch:=omega) only[↓pq,↓pj,ps,pz,↓reduceIte,ah,ai,aj,ak,aq,au,av,aw,ax,Ox,]
def iP(s:List aI)(r:aI):List aI:=s.filter (λx=>j7 x r)++([r]++s.filter (λx=>j7 r x))
abbrev zB(s:List aI):Prop:=s.Pairwise λa b=>j7 a b=true
theorem abk{a b c:aI}(h:j7 a b=true)(h':j7 b c=true):j7 a c=true:=by rw[OE]at *;omega
theorem LW{a b:aI}(h:j7 a b=true):j7 b a=false:=by
 cases h':j7 b a with
 |false=>rfl
 |true=>rw[OE]at *;omega
theorem abl{s:List aI}(h:zB s)(r:aI):zB (iP s r):=by
 unfold iP zB
 rw[List.pairwise_append]
 refine⟨h.filter _,?_,?_⟩
 ·rw[List.pairwise_append]
  refine⟨by simp,h.filter _,?_⟩
  intro a ha b hb
  rw[List.mem_singleton]at ha
  subst ha
  exact(List.mem_filter.1 hb).2
 ·intro a ha b hb
  have ha:=(List.mem_filter.1 ha).2
  rcases List.mem_append.1 hb with hb|hb
  ·rw[List.mem_singleton]at hb
   subst hb;exact ha
  ·exact abk ha (List.mem_filter.1 hb).2
theorem abm(s:List aI)(r:aI):(iP s r).length<=s.length+1:=by
 unfold iP
 have:(s.filter (λx=>j7 x r)).length+(s.filter (λx=>j7 r x)).length<=s.length:=by
  induction s with
  |nil=>simp
  |cons x s ih=>
   simp only[List.filter_cons]
   cases h:j7 x r with
   |true=>simp[LW h];omega
   |false=>cases h':j7 r x<;>simp<;>omega
 simp;omega
theorem LX{s:List aI}{r x:aI}(h:x∈iP s r):x=r∨x∈s:=by
 unfold iP at h
 rcases List.mem_append.1 h with h|h
 ·exact .inr (List.mem_filter.1 h).1
 ·rcases List.mem_append.1 h with h|h
  ·exact .inl (List.mem_singleton.1 h)
  ·exact .inr (List.mem_filter.1 h).1
theorem abn{s:List aI}{r:aI}(h:dj s)(hr:r.fU.length<=1048576):dj (iP s r):=λx hx=>by
 rcases LX hx with rfl|hx
 ·exact hr
 ·exact h x hx
def alt(s:List aI)(r:aI):Nat:=(s.filter (λx=>j7 x r)).length
theorem dj.take{s:List aI}(h:dj s)(n:Nat):dj (s.take n):=λr hr=>h r (List.mem_of_mem_take hr)
theorem dj.drop{s:List aI}(h:dj s)(n:Nat):dj (s.drop n):=λr hr=>h r (List.mem_of_mem_drop hr)
theorem OH{β σ:Type}{F:(σ->Option β)->σ->Option β}{R:Nat}{x:σ}(st:Nat->σ)(n:Nat){out:Option β}(hx:x=st 0)(hR:n<R)(step:∀i:Nat,(i:Int)<(n:Int)->∀s,F s (st i)=s (st (i+1)))(fin:∀s,F s (st n)=out):iter F R x=out:=by
 have:=Fu (F:=F) (R:=R) (x:=x) n st (λ_=>true) (lJ:=out) (lK:=out) hx hR (λi hi s=>by simpa using step i hi s) fin
 rw[this];simp
theorem DZ(s:List aI)(a k o y q:Int)(l:List cF)(c:Int)(f:Bool)(h:s.length<=1048570)(hn:dj s)(hl:l.length<=1048576):
  zm [.l (s.map bh),ii a,ii k,ii o,ii y,ii q,.l (l.map gD),ii c,bb f]=some [.l ((iP s ⟨a,k,o,y,q,l,c,f⟩).map bh)]:=by
 obtain⟨r,hr⟩:∃r:aI,r=⟨a,k,o,y,q,l,c,f⟩:=⟨_,rfl⟩
 have hb:∀x:aI,j7 ⟨x.aC,x.kind,x.owner,x.key,0,[],0,false⟩ ⟨a,k,o,y,0,[],0,false⟩=j7 x r:=λx=>by rw[hr];rfl
 have jU:∀x:aI,j7 ⟨a,k,o,y,0,[],0,false⟩ ⟨x.aC,x.kind,x.owner,x.key,0,[],0,false⟩=j7 r x:=λx=>by rw[hr];rfl
 rw[YZ];simp(disch:=omega) only[↓pq,↓pj,ps,pz,↓reduceIte,ah,ai,aj,ak,aq,au,av,aw,ax,Gf,Gg,DF]
 refine(jz s (λi c=>[.l (c.map bh),ii i]) (λc x=>if j7 x r=true then c++[x]else c) (λd=>some [T.l ((s.foldl (λc x=>if j7 r x=true then c++[x]else c) (d++[r])).map bh)]) [] (λi c=>c.length<=i) rfl (et (by omega)) (by simp) ?_ ?_).trans ?_
 ·intro i c hi hc
  refine⟨by split<;>(try simp)<;>omega,λw=>?_⟩
  have:=hn.gt (n:=i) (by omega) hi
  simp(disch:=omega) only[↓pq,↓pj,ps,pz,↓reduceIte,ah,ai,aj,ak,aq,au,av,aw,ax,Gf,Gg,hi,DY,hb]
  split<;>rfl
 ·intro d w hd
  simp(disch:=omega) only[↓pq,↓pj,ps,pz,↓reduceIte,ah,ai,aj,ak,aq,au,av,aw,ax,Gf,Gg,]
  rw[<-hr]
  refine jz s (λi c=>[.l (c.map bh),ii i]) (λc x=>if j7 r x=true then c++[x]else c) (λc=>some [T.l (c.map bh)]) (d++[r]) (λi c=>c.length<=d.length+1+i) rfl (et (by omega)) (by simp) ?_ ?_
  ·intro i c hi hc
   refine⟨by split<;>(try simp)<;>omega,λw=>?_⟩
   have:=hn.gt (n:=i) (by omega) hi
   simp(disch:=omega) only[↓pq,↓pj,ps,pz,↓reduceIte,ah,ai,aj,ak,aq,au,av,aw,ax,Gf,Gg,hi,DY,jU]
   split<;>rfl
  ·intro c w hc
   simp(disch:=omega) only[↓pq,↓pj,ps,pz,↓reduceIte,ah,ai,aj,ak,aq,au,av,aw,ax,Gf,Gg,]
 ·rw[AJ,AJ,<-hr]
  unfold iP
  simp
def rL:List Int:=[1,2,3,4,5,6]
def fZ(l:List Int):Prop:=l.Pairwise (· < ·)∧∀x∈l,1<=x∧x<=6
theorem wC:∀{a b:List Int},a.Pairwise (· < ·)->b.Pairwise (· < ·)->(∀x,x∈a↔x∈b)->a=b
 | [],[],_,_,_=>rfl
 | [],y::b,_,_,h=>absurd ((h y).2 (.head _)) (by simp)
 |x::a,[],_,_,h=>absurd ((h x).1 (.head _)) (by simp)
 |x::a,y::b,ha,hb,h=>by
  have D0:=List.pairwise_cons.1 ha
  have jU:=List.pairwise_cons.1 hb
  have HX:x=y:=by
   rcases List.mem_cons.1 ((h x).1 (.head _))with e|e
   ·exact e
   ·rcases List.mem_cons.1 ((h y).2 (.head _))with e'|e'
    ·exact e'.symm
    ·have:=jU.1 x e;have:=D0.1 y e';omega
  subst HX
  have:a=b:=wC D0.2 jU.2 λz=>by
   constructor
   ·intro hz
    rcases List.mem_cons.1 ((h z).1 (.tail _ hz))with e|e
    ·subst e;have:=D0.1 z hz;omega
    ·exact e
   ·intro hz
    rcases List.mem_cons.1 ((h z).2 (.tail _ hz))with e|e
    ·subst e;have:=jU.1 z hz;omega
    ·exact e
  rw[this]
def qy(a b:List Int):List Int:=rL.filter λx=>a.contains x||b.contains x
theorem ph:rL.Pairwise (· < ·):=by unfold rL;simp
theorem D1(a b:List Int):fZ (qy a b):=by
 refine⟨ph.filter _,λx hx=>?_⟩
 have:=(List.mem_filter.1 hx).1
 simp[rL]at this
 omega
theorem fA{x:Int}:x∈rL↔1<=x∧x<=6:=by simp[rL];omega
theorem LY{a b:List Int}{x:Int}:x∈qy a b↔(1<=x∧x<=6)∧(x∈a∨x∈b):=by
 unfold qy
 rw[List.mem_filter,fA]
 simp
theorem Gn{a:List Int}(h:fZ a):qy [] a=a:=
 wC (D1 _ _).1 h.1 λx=>by
  rw[LY]
  exact⟨λh'=>h'.2.resolve_left (by simp),λh'=>⟨h.2 x h',.inr h'⟩⟩
theorem lM{a:List Int}(h:fZ a):a.length<=6:=by
 have e:qy [] a=a:=Gn h
 rw[<-e]
 exact List.length_filter_le _ _
theorem zC:fZ []:=⟨.nil,by simp⟩
theorem LZ{n:Int}(h:1<=n)(h':n<=6):fZ [n]:=⟨by simp,by simp;omega⟩
theorem L0(l:List Int)(n:Int)(h:l.length<=1048576):FM [.l (l.map aA),ii n]=some [bb (l.contains n)]:=by
 rw[Zv];simp(disch:=omega) only[↓pq,↓pj,ps,pz,↓reduceIte,ah,ai,aj,ak,aq,au,av,aw,ax,Ou,DI]
 refine(Fv l (λi=>[bb false,ii i]) (λx=>x==n) (λ_=>some [bb true]) (lL:=some [bb false]) rfl (et h) ?_ ?_).trans ?_
 ·intro i hi q
  simp(disch:=omega) only[↓pq,↓pj,ps,pz,↓reduceIte,ah,ai,aj,ak,aq,au,av,aw,ax,Ou,hi]
 ·intro q
  simp(disch:=omega) only[↓pq,↓pj,ps,pz,↓reduceIte,ah,ai,aj,ak,aq,au,av,aw,ax,Ou,]
 ·rw[rK]
  congr 3
  by_cases hf:eg (λx=>x==n) l<0
  ·rw[if_pos hf]
   have:=(AH _ _).1 hf
   cases hc:l.contains n with
   |false=>rfl
   |true=>
    have hm:=List.contains_iff_mem.1 hc
    have:=this n hm
    simp at this
  ·rw[if_neg hf]
   have:=zi _ _ (by omega:0<=eg (λx=>x==n) l)
   have hm:=h_ (l:=l) (n:=eg (λx=>x==n) l) (by omega) (tS _ _)
   rw[beq_iff_eq]at this
   rw[this]at hm
   exact(List.contains_iff_mem.2 hm).symm
theorem abo(l:List Int)(h:l.length<=1048576):F1 [.l (l.map aA)]=some [.l (l.map aA)]:=by
 rw[aaF];simp(disch:=omega) only[↓pq,↓pj,ps,pz,↓reduceIte,ah,ai,aj,ak,aq,au,av,aw,ax,jY_]
theorem kU_(a b:Int)(l:List Int)(h:l.length<=1048576):zo [ii a,ii b,.l (l.map aA)]=some [ii a,ii b,.l (l.map aA)]:=by
 rw[ZC];simp(disch:=omega) only[↓pq,↓pj,ps,pz,↓reduceIte,ah,ai,aj,ak,aq,au,av,aw,ax,ZA]
def dQ(l:List Way)(to:Int):Int:=eg (λw=>w.to==to) l
theorem Gp(l:List Way)(to:Int)(h:l.length<=1048576)(hl:∀w∈l,w.ae.length<=1048576):pg [.l (l.map bM),ii to]=if dQ l to<0 then some [ii 0,ii 0,.l [],bb false]else some (bM (gt l (dQ l to))++[bb true]):=by
 rw[ZE];simp(disch:=omega) only[↓pq,↓pj,ps,pz,↓reduceIte,ah,ai,aj,ak,aq,au,av,aw,ax,Ow,DL]
 refine Fv l (λi=>[bb false,ii i]) (λw=>w.to==to) (λi=>some (bM (gt l i)++[bb true])) (lL:=some [ii 0,ii 0,.l [],bb false]) rfl (et h) ?_ ?_
 ·intro i hi q
  have:=hl _ (h_ (n:=i) (by omega) hi)
  simp(disch:=omega) only[↓pq,↓pj,ps,pz,↓reduceIte,ah,ai,aj,ak,aq,au,av,aw,ax,Ow,hi,kU_]
  rfl
 ·intro q
  simp(disch:=omega) only[↓pq,↓pj,ps,pz,↓reduceIte,ah,ai,aj,ak,aq,au,av,aw,ax,Ow,]
def mR(a b:Way):Way:=if b.cost>a.cost then a else if a.cost>b.cost then b else⟨a.to,a.cost,qy a.ae b.ae⟩
theorem abq{α:Type} [Inhabited α]{enc:α->List T}{l:List α}{i off:Nat}{vs:List T}{x:α}(h:i<l.length)(hx:(enc (gt l i)).take off++vs++(enc (gt l i)).drop (off+vs.length)=enc x):setRow (l.map enc) i off vs=(l.set i x).map enc:=by
 unfold setRow
 refine List.ext_getElem (by simp) λj h1 h2=>?_
 simp only[List.getElem_modify,List.getElem_map,List.getElem_set]
 by_cases hj:i=j
 ·subst hj
  rw[if_pos rfl,if_pos rfl,<-hx,gC h]
 ·rw[if_neg hj,if_neg hj]
theorem Gq{α:Type} [Inhabited α]{enc:α->List T}{sc:Bool}{w off m:Nat}{l:List α}{n:Int}{vs:List T}{x:α}(h:0<=n)(h':n<l.length)(hw:∀y,(enc y).length=w)(ho:off+m<=w)(hv:vs.length=m)(hs:(!sc||vs.all dr)=true)
  (hx:(enc (gt l n)).take off++vs++(enc (gt l n)).drop (off+vs.length)=enc x):Prim.ev (.put sc w off m) (.l (l.map enc)::ii n::vs)=some (.l ((l.set n.toNat x).map enc)):=by
 have hn:n.toNat<l.length:=by omega
 have e:n=((n.toNat:Nat):Int):=by omega
 have hg:=dq (enc:=enc) h h'
 rw[e]
 rw[J6 hg (hw _) ho hv hs,Int.toNat_natCast,abq hn (by rw[<-e];exact hx)]
theorem wD{l:List Int}{n x:Int}(h:0<=n)(h':n<l.length):Prim.ev (.put true 1 0 1) [.l (l.map aA),ii n,ii x]=some (.l ((l.set n.toNat x).map aA)):=
 Gq (enc:=aA) (x:=x) h h' (λ_=>rfl) (by decide) rfl rfl rfl
theorem D2{l:List Bool}{n:Int}{x:Bool}(h:0<=n)(h':n<l.length):Prim.ev (.put true 1 0 1) [.l (l.map fC),ii n,bb x]=some (.l ((l.set n.toNat x).map fC)):=
 Gq (enc:=fC) (x:=x) h h' (λ_=>rfl) (by decide) rfl rfl rfl
def sH(l:List Int):List T:=[.l (l.map aA)]
theorem zD{l:List (List Int)}{n:Int}(h:0<=n)(h':n<l.length):Prim.ev (.cell 1 0) [.l (l.map sH),ii n]=some (.l ((gt l n).map aA)):=gN h (dq h h') rfl rfl
theorem AW{l:List (List Int)}{n:Int}{c:List Int}(h:0<=n)(h':n<l.length):Prim.ev (.put false 1 0 1) [.l (l.map sH),ii n,.l (c.map aA)]=some (.l ((l.set n.toNat c).map sH)):=
 Gq (enc:=sH) (x:=c) h h' (λ_=>rfl) (by decide) rfl rfl rfl
theorem tX{α:Type}{enc:α->List T}{n:Nat}{x:α}{vs:List T}(h:n<4294967296)(hx:vs=enc x):Prim.ev .mk (ii (n:Int)::ii (n:Int)::vs)=some (.l ((List.replicate n x).map enc)):=by
 rw[SJ (by unfold qD;exact h),hx,List.map_replicate]
theorem D3{α:Type} [Inhabited α]{l:List α}{i j:Int}{x:α}(h:0<=i)(h':i<l.length)(hj:0<=j):gt (l.set i.toNat x) j=if i=j then x else gt l j:=by
 unfold gt
 simp only[List.getD_eq_getElem?_getD,List.getElem?_set]
 by_cases e:i=j
 ·subst e
  simp[show i.toNat<l.length by omega]
 ·have:¬(i.toNat=j.toNat):=by omega
  simp[e,this]
theorem L1{α:Type} [Inhabited α]{n:Nat}{x:α}{j:Int}(h:0<=j)(h':j<n):gt (List.replicate n x) j=x:=by
 unfold gt
 simp only[List.getD_eq_getElem?_getD]
 rw[List.getElem?_replicate,if_pos (by omega)]
 rfl
def og(s:List aI)(ar v:Int):Int:=eg (λx=>AV x ⟨ar,1,v,0,0,[],0,false⟩) s
def rM(s:List aI)(ar v:Int):List cF:=if og s ar v<0 then []else(gt s (og s ar v)).fU
def tY(l:List cF)(b:Int):Int:=if eg (λ(x:cF)=>x.to==b) l<0 then 0 else(gt l (eg (λ(x:cF)=>x.to==b) l)).cost
def pO(s:List aI)(ar a b:Int):Int:=tY (rM s ar a) b
def gd(s:List aI)(ar a b:Int):Int:=if pO s ar b a=0 then 0 else pO s ar a b
theorem D4(s:List aI)(ar v:Int):og s ar v<s.length:=tS _ _
theorem L2{s:List aI}(hn:dj s)(ar v:Int):(rM s ar v).length<=1048576:=by
 unfold rM
 split
 ·simp
 ·exact hn.gt (by omega) (D4 s ar v)
theorem abr(s:List aI)(ar a:Int)(h:s.length<=1048576):tV [.l (s.map bh),ii ar,ii a]=if og s ar a<0 then some [ii 0,ii 0,ii 0,ii 0,ii 0,.l [],ii 0,bb false,bb false]else some (bh (gt s (og s ar a))++[bb true]):=by
 have h2:=D4 s ar a
 rw[Zn];simp(disch:=omega) only[↓pq,↓pj,ps,pz,↓reduceIte,ah,ai,aj,ak,aq,au,av,aw,ax,Zl,abi]
 rw[<-og]
 by_cases hk:og s ar a<0
 ·simp only[hk,if_true]
 ·have h3:0<=og s ar a:=by omega
  simp only[hk,if_false]
  simp(disch:=omega) only[↓pq,↓pj,ps,pz,↓reduceIte,ah,ai,aj,ak,aq,au,av,aw,ax,]
  rfl
theorem jN_(s:List aI)(ar a:Int)(h:s.length<=1048576):∃c0 c1 c2 c3 c4 c6 c7:T,tV [.l (s.map bh),ii ar,ii a]=some [c0,c1,c2,c3,c4,.l ((rM s ar a).map gD),c6,c7,bb (decide (0<=og s ar a))]:=by
 rw[abr _ _ _ h]
 unfold rM
 by_cases hk:og s ar a<0
 ·rw[if_pos hk,if_pos hk,show decide (0<=og s ar a)=false by simp;omega];exact⟨_,_,_,_,_,_,_,rfl⟩
 ·rw[if_neg hk,if_neg hk,show decide (0<=og s ar a)=true by simp;omega];exact⟨_,_,_,_,_,_,_,rfl⟩
theorem abu(s:List aI)(ar a b:Int)(h:s.length<=1048576)(hn:dj s):FK [.l (s.map bh),ii ar,ii a,ii b]=some [ii (pO s ar a b)]:=by
 obtain⟨c0,c1,c2,c3,c4,c6,c7,e⟩:=jN_ s ar a h
 have hl:=L2 hn ar a
 rw[Zq];simp(disch:=omega) only[↓pq,↓pj,ps,pz,↓reduceIte,ah,ai,aj,ak,aq,au,av,aw,ax,Ot,Zo,e]
 refine(Fv (rM s ar a) (λi=>[ii 0,ii i]) (λx=>x.to==b) (λi=>some [ii (gt (rM s ar a) i).cost]) (lL:=some [ii 0]) rfl (et hl) ?_ ?_).trans ?_
 ·intro i hi q
  simp(disch:=omega) only[↓pq,↓pj,ps,pz,↓reduceIte,ah,ai,aj,ak,aq,au,av,aw,ax,Ot,hi]
 ·intro q
  simp(disch:=omega) only[↓pq,↓pj,ps,pz,↓reduceIte,ah,ai,aj,ak,aq,au,av,aw,ax,Ot,]
 ·unfold pO tY
  split<;>rfl
theorem kP_{s:List aI}(h:iO s=true){r:aI}(hr:r∈s):n6 r=true:=by
 simp only[iO,bB]at h
 obtain⟨i,hi,rfl⟩:=List.mem_iff_getElem.1 hr
 have:=cY.1 h.2 i hi
 simp only[bB]at this
 rw[<-gC hi]
 exact this.1
theorem L3{o:Int}{l:List cF}(h:uL o l=true){x:cF}(hx:x∈l):(1<=x.to∧x.to<=6)∧x.to≠o∧(1<=x.cost∧x.cost<=1000):=by
 obtain⟨i,hi,rfl⟩:=List.mem_iff_getElem.1 hx
 have:=cY.1 h i hi
 simp only[bB,bU,Bool.not_eq_true',decide_eq_false_iff_not]at this
 rw[<-gC hi]
 exact⟨this.1.1.1,this.1.1.2,this.1.2⟩
theorem L4{o:Int}{l:List cF}(h:uL o l=true):l.Pairwise λa b=>a.to<b.to:=by
 have h:=cY.1 h
 rw[List.pairwise_iff_getElem]
 have step:∀i,(hi:i+1<l.length)->l[i].to<l[i+1].to:=by
  intro i hi
  have:=h (i+1) hi
  simp only[bB,Bool.or_eq_true,Bool.not_eq_true',decide_eq_false_iff_not,decide_eq_true_eq]at this
  have h2:=this.2.resolve_left (by omega)
  rwa[show(((i+1:Nat):Int)-1)=(i:Int) by omega,gC (by omega),gC hi]at h2
 intro i j hi hj sJ
 obtain⟨d,rfl⟩:∃d,j=i+1+d:=⟨j-i-1,by omega⟩
 clear sJ
 induction d with
 |zero=>exact step i (by omega)
 |succ d ih=>exact Int.lt_trans (ih (by omega)) (step (i+1+d) (by omega))
theorem OI{s:List aI}(h:iO s=true)(ar v:Int):uL v (rM s ar v)=true:=by
 unfold rM
 by_cases hk:og s ar v<0
 ·rw[if_pos hk];simp[uL,pe]
 ·rw[if_neg hk]
  have hm:=h_ (l:=s) (n:=og s ar v) (by omega) (D4 s ar v)
  have hr:=kP_ h hm
  have hs:=zi (λx=>AV x ⟨ar,1,v,0,0,[],0,false⟩) s (by unfold og at hk;omega)
  rw[<-og]at hs
  rw[aa']at hs
  obtain⟨_,h2,h3,_⟩:=hs
  simp only at h2 h3
  unfold n6 at hr
  rw[h2]at hr
  simp only[if_true,bB]at hr
  have hq:=hr.2.1.1.2
  rw[h3]at hq
  exact hq
theorem L5{l:List cF}{b:Int}(h:∀x∈l,x.to≠b):tY l b=0:=by
 unfold tY
 rw[if_pos]
 rw[AH]
 intro x hx
 simp[h x hx]
theorem abw{l:List cF}{b:Int}(h:tY l b≠0):∃x∈l,x.to=b∧x.cost=tY l b:=by
 unfold tY at h⊢
 split at h
 ·exact absurd rfl h
 ·rename_i hf
  rw[if_neg hf]
  have hs:=zi (λ(y:cF)=>y.to==b) l (by omega)
  simp only[beq_iff_eq]at hs
  exact⟨_,h_ (by omega) (tS _ _),hs,rfl⟩
theorem L6{s:List aI}(h:iO s=true)(ar a b:Int):0<=pO s ar a b∧pO s ar a b<=1000:=by
 unfold pO
 by_cases h0:tY (rM s ar a) b=0
 ·rw[h0];omega
 ·obtain⟨x,hx,_,h2⟩:=abw h0
  have:=L3 (OI h ar a) hx
  omega
theorem OJ{s:List aI}(h:iO s=true)(ar a b:Int):0<=gd s ar a b∧gd s ar a b<=1000:=by
 unfold gd
 split
 ·omega
 ·exact L6 h ar a b
def zE(s:List aI)(ar a:Int)(M:List Int)(x:cF):List Int:=if jg x.to 1 6=true∧pO s ar x.to a>0 then M.set (a*7+x.to).toNat x.cost else M
def tZ(s:List aI)(ar:Int)(M:List Int)(i:Nat):List Int:=(rM s ar (i+1)).foldl (zE s ar (i+1)) M
def wE(s:List aI)(ar:Int):List Int:=(List.range 6).foldl (tZ s ar) (List.replicate 49 0)
theorem kG_(s:List aI)(ar a:Int)(M:List Int)(x:cF):(zE s ar a M x).length=M.length:=by
 unfold zE;split<;>simp
theorem D5{α β:Type}{g:List α->β->List α}(h:∀M x,(g M x).length=M.length)(l:List β)(M:List α):(l.foldl g M).length=M.length:=by
 induction l generalizing M with
 |nil=>rfl
 |cons x l ih=>rw[List.foldl_cons,ih,h]
theorem D6(s:List aI)(ar:Int)(M:List Int)(i:Nat):(tZ s ar M i).length=M.length:=D5 (kG_ s ar _) _ _
theorem aby(s:List aI)(ar:Int):(wE s ar).length=49:=by
 unfold wE
 rw[D5 (λM i=>D6 s ar M i)]
 simp
theorem abz{s:List aI}(hs:iO s=true)(ar:Int){a:Int}(ha:1<=a∧a<=6){u v:Int}(hu:1<=u∧u<=6)(hv:1<=v∧v<=6){o:Int}:∀(l:List cF) (M:List Int),uL o l=true∨(l.Pairwise (λa b=>a.to<b.to)∧∀x∈l,1<=x.to∧x.to<=6)->M.length=49->
  gt (l.foldl (zE s ar a) M) (u*7+v)=if u=a∧pO s ar v a>0∧∃x∈l,x.to=v then tY l v else gt M (u*7+v):=by
 intro l M hl hM
 replace hl:l.Pairwise (λa b=>a.to<b.to)∧∀x∈l,1<=x.to∧x.to<=6:=by
  rcases hl with hl|hl
  ·exact⟨L4 hl,λx hx=>(L3 hl hx).1⟩
  ·exact hl
 induction l generalizing M with
 |nil=>simp
 |cons y l ih=>
  have hp:=List.pairwise_cons.1 hl.1
  have hy:=hl.2 y (.head _)
  have hlen:=kG_ s ar a M y
  rw[List.foldl_cons,ih (zE s ar a M y) (by rw[hlen];exact hM) ⟨hp.2,λx hx=>hl.2 x (.tail _ hx)⟩]
  have tc:gt (zE s ar a M y) (u*7+v)=if u=a∧v=y.to∧pO s ar y.to a>0 then y.cost else gt M (u*7+v):=by
   unfold zE
   by_cases hc:jg y.to 1 6=true∧pO s ar y.to a>0
   ·rw[if_pos hc,D3 (by omega) (by omega) (by omega)]
    refine wq ⟨λh=>⟨by omega,by omega,hc.2⟩,λh=>by omega⟩ _ _
   ·rw[if_neg hc,if_neg (λh=>hc ⟨bU.2 hy,h.2.2⟩)]
  rw[tc]
  by_cases n9:∃x∈l,x.to=v
  ·obtain⟨x,hx,e⟩:=n9
   have cP:¬(v=y.to):=by have:=hp.1 x hx;omega
   have L7:tY (y::l) v=tY l v:=by
    unfold tY eg
    rw[List.findIdx?_cons]
    have:(y.to==v)=false:=by simp;omega
    rw[this]
    simp only[cA,if_false]
    cases hf:l.findIdx? (λ(z:cF)=>z.to==v)with
    |none=>rfl
    |some k=>
     show(if((k+1:Nat):Int)<0 then 0 else(gt (y::l) ((k+1:Nat):Int)).cost)=if(k:Int)<0 then 0 else(gt l (k:Int)).cost
     rw[if_neg (by omega),if_neg (by omega)]
     rfl
   by_cases s9:u=a∧pO s ar v a>0
   ·rw[if_pos ⟨s9.1,s9.2,x,hx,e⟩,if_pos ⟨s9.1,s9.2,x,.tail _ hx,e⟩,L7]
   ·rw[if_neg (λh=>s9 ⟨h.1,h.2.1⟩),if_neg (λh=>cP h.2.1),if_neg (λh=>s9 ⟨h.1,h.2.1⟩)]
  ·rw[if_neg (λh=>n9 h.2.2)]
   by_cases hc:u=a∧v=y.to∧pO s ar y.to a>0
   ·rw[if_pos hc,if_pos ⟨hc.1,by rw[hc.2.1];exact hc.2.2,y,.head _,hc.2.1.symm⟩]
    unfold tY eg
    rw[List.findIdx?_cons]
    have:(y.to==v)=true:=by simp;omega
    rw[this]
    rfl
   ·rw[if_neg hc,if_neg]
    rintro⟨h1,h2,x,hx,e⟩
    rcases List.mem_cons.1 hx with rfl|hx
    ·exact hc ⟨h1,e.symm,by rw[e];exact h2⟩
    ·exact n9 ⟨x,hx,e⟩
theorem abA{s:List aI}(hs:iO s=true)(ar:Int){i:Nat}(hi:i<6){M:List Int}(hM:M.length=49){u v:Int}(hu:1<=u∧u<=6)(hv:1<=v∧v<=6)(h0:u=(i:Int)+1->gt M (u*7+v)=0):
  gt (tZ s ar M i) (u*7+v)=if u=(i:Int)+1 then gd s ar u v else gt M (u*7+v):=by
 unfold tZ
 rw[abz (o:=(i:Int)+1) hs ar (by omega) hu hv _ _ (.inl (OI hs ar ((i:Int)+1))) hM]
 by_cases hc:u=(i:Int)+1
 ·rw[if_pos hc,h0 hc]
  unfold gd
  have hb:=L6 hs ar v u
  by_cases h1:pO s ar v u=0
  ·rw[if_pos h1,if_neg]
   rintro⟨_,h2,_⟩
   rw[<-hc]at h2;omega
  ·rw[if_neg h1]
   by_cases h2:∃x∈rM s ar ((i:Int)+1),x.to=v
   ·rw[if_pos ⟨hc,by rw[<-hc];omega,h2⟩,<-hc];rfl
   ·rw[if_neg (λh=>h2 h.2.2)]
    unfold pO
    rw[L5]
    intro x hx e
    exact h2 ⟨x,hc▸hx,e⟩
 ·rw[if_neg (λh=>hc h.1),if_neg hc]
theorem abB{s:List aI}(hs:iO s=true)(ar:Int){u v:Int}(hu:1<=u∧u<=6)(hv:1<=v∧v<=6):gt (wE s ar) (u*7+v)=gd s ar u v:=by
 have key:=Oa (l:=List.range 6) (g:=tZ s ar) (c:=List.replicate 49 0) (Inv:=λi M=>M.length=49∧∀u v:Int,(1<=u∧u<=6)->(1<=v∧v<=6)->gt M (u*7+v)=if u<(i:Int)+1 then gd s ar u v else 0)
  ⟨by simp,λu v hu hv=>by rw[L1 (by omega) (by omega),if_neg (by omega)]⟩ (λi M hi ⟨h1,h2⟩=>by
   have hl:(List.range 6).length=6:=List.length_range
   rw[hl]at hi
   rw[gC (by rw[hl];omega),List.getElem_range]
   refine⟨by rw[D6];exact h1,λu v hu hv=>?_⟩
   rw[abA hs ar (by omega) h1 hu hv (λe=>by rw[h2 u v hu hv,if_neg (by omega)]),h2 u v hu hv]
   by_cases hc:u=(i:Int)+1
   ·rw[if_pos hc,if_pos (by omega)]
   ·rw[if_neg hc]
    exact wq ⟨λh=>by omega,λh=>by omega⟩ _ _)
 have:=key.2 u v hu hv
 rw[List.length_range,if_pos (by omega)]at this
 exact this
theorem abC(s:List aI)(ar:Int)(h:s.length<=1048576)(hn:dj s)(hs:iO s=true):FL [.l (s.map bh),ii ar]=some [.l ((wE s ar).map aA)]:=by
 have e0:=tX (enc:=aA) (n:=49) (x:=0) (vs:=[ii 0]) (by decide) rfl
 rw[Zt];simp only[Zr,KA]
 rw[show Prim.ev .mk [ii 49,ii 49,ii 0]=some (.l ((List.replicate 49 (0:Int)).map aA)) from e0,oe]
 refine qP 6 (λi M=>[ii (i+1),.l (M.map aA)]) (tZ s ar) (λM=>some [T.l (M.map aA)]) (List.replicate 49 0) (λ_ M=>M.length=49) rfl (et (by omega)) (by simp) ?_ ?_
 ·intro i M hi hM
  refine⟨by rw[D6];exact hM,λq=>?_⟩
  have bR:(i:Int)+1<=6:=by omega
  obtain⟨c0,c1,c2,c3,c4,c6,c7,e⟩:=jN_ s ar ((i:Int)+1) h
  have hl:=L2 hn ar ((i:Int)+1)
  simp(disch:=omega) only[↓pq,↓pj,ps,pz,↓reduceIte,ah,ai,aj,ak,aq,au,av,aw,ax,LD,LF,bR,e]
  refine jz (rM s ar ((i:Int)+1)) (λj M=>[ii j,.l (M.map aA)]) (zE s ar ((i:Int)+1)) (λM=>q [ii ((i+1:Nat)+1),.l (M.map aA)]) M (λ_ M=>M.length=49) rfl (et hl) hM ?_ ?_
  ·intro j M hj hM
   refine⟨by rw[kG_];exact hM,λq=>?_⟩
   have ht:=L3 (OI hs ar ((i:Int)+1)) (h_ (n:=j) (by omega) hj)
   unfold zE
   have hb:jg (gt (rM s ar ((i:Int)+1)) j).to 1 6=true:=bU.2 ht.1
   simp(disch:=omega) only[↓pq,↓pj,ps,pz,↓reduceIte,ah,ai,aj,ak,aq,au,av,aw,ax,LD,LF,hj,AU,hb,abu _ _ _ _ h hn,wD]
   simp only[true_and]
   by_cases hc:pO s ar (gt (rM s ar ((i:Int)+1)) j).to ((i:Int)+1)>0
   ·simp only[hc,if_true]
   ·simp only[hc,if_false]
  ·intro M q' hM
   simp(disch:=omega) only[↓pq,↓pj,ps,pz,↓reduceIte,ah,ai,aj,ak,aq,au,av,aw,ax,LD,LF,]
 ·intro M q hM
  simp(disch:=omega) only[↓pq,↓pj,ps,pz,↓reduceIte,ah,ai,aj,ak,aq,au,av,aw,ax,LD,LF,]
def pP{α:Type}(f:Nat->α):List α:=(List.range 7).map f
theorem wF{α:Type}(f:Nat->α):(pP f).length=7:=by simp[pP]
theorem D7{α:Type} [Inhabited α](f:Nat->α){v:Int}(h:0<=v)(h':v<7):gt (pP f) v=f v.toNat:=by
 obtain⟨n,rfl⟩:∃n:Nat,v=n:=⟨v.toNat,by omega⟩
 rw[gC (by rw[wF];omega)]
 simp[pP]
theorem Gr{α:Type}{f g:Nat->α}(h:∀i,i<7->f i=g i):pP f=pP g:=by
 unfold pP
 exact List.map_congr_left λi hi=>h i (by simpa using hi)
theorem wG{α:Type}(f:Nat->α)(n:Nat)(x:α):(pP f).set n x=pP λi=>if i=n then x else f i:=by
 refine List.ext_getElem (by simp[pP]) λi h1 h2=>?_
 simp only[List.getElem_set,pP,List.getElem_map,List.getElem_range]
 by_cases h:n=i
 ·simp[h]
 ·rw[if_neg h,if_neg (λe=>h e.symm)]
def D8(W:List Way)(D:List Int)(b:Int)(i:Nat):Int:=
 if¬((gt W ((i:Int)+1)).to=0)∧D.contains ((i:Int)+1)=false∧(b=0∨(gt W ((i:Int)+1)).cost<(gt W b).cost)then(i:Int)+1 else b
def eb(W:List Way)(D:List Int):Int:=(List.range 6).foldl (D8 W D) 0
def oF(s:List aI)(ar fr c8:Int)(W:List Way)(i:Nat):List Way:=
 if gd s ar c8 ((i:Int)+1)=0∨(i:Int)+1=fr then W
 else if(gt W ((i:Int)+1)).to=0∨(gt W c8).cost+gd s ar c8 ((i:Int)+1)<(gt W ((i:Int)+1)).cost then
  W.set (i+1) ⟨(i:Int)+1,(gt W c8).cost+gd s ar c8 ((i:Int)+1),if c8=fr then [(i:Int)+1]else(gt W c8).ae⟩
 else if(gt W c8).cost+gd s ar c8 ((i:Int)+1)=(gt W ((i:Int)+1)).cost then
  W.set (i+1) (mR (gt W ((i:Int)+1)) ⟨(i:Int)+1,(gt W c8).cost+gd s ar c8 ((i:Int)+1),if c8=fr then [(i:Int)+1]else(gt W c8).ae⟩)
 else W
def sK(s:List aI)(ar fr c8:Int)(W:List Way):List Way:=(List.range 6).foldl (oF s ar fr c8) W
def uM(s:List aI)(ar fr:Int):Nat->List Way->List Int->List Way
 |0,W,_=>W
 |k+1,W,D=>if eb W D=0 then W else uM s ar fr k (sK s ar fr (eb W D) W) (D++[eb W D])
def D9:Way:=⟨0,0,[]⟩
def W0(fr:Int):List Way:=(List.replicate 7 D9).set fr.toNat ⟨fr,0,[]⟩
def AX(W:List Way):List Way:=W.filter λw=>!(w.to==0)
def eX(s:List aI)(ar fr:Int):List Way:=if iO s=true∧jg fr 1 6=true∧0<=og s ar fr then AX (uM s ar fr 6 (W0 fr) [])else []
structure mG (W:List Way) (c:Int):Prop where
 len:W.length=7
 ae:∀v:Int,0<=v->v<7->fZ (gt W v).ae
 cost:∀v:Int,0<=v->v<7->0<=(gt W v).cost∧(gt W v).cost<=c
 to:∀v:Int,0<=v->v<7->(gt W v).to=0∨(gt W v).to=v
theorem mG.mono{W:List Way}{c c':Int}(h:mG W c)(hc:c<=c'):mG W c':=⟨h.len,h.ae,λv h1 h2=>by have:=h.cost v h1 h2;omega,h.to⟩
theorem sL{W:List Way}{i:Nat}{w:Way}{v:Int}(hl:W.length=7)(hi:i<6)(h0:0<=v):gt (W.set (i+1) w) v=if v=(i:Int)+1 then w else gt W v:=by
 have:=D3 (l:=W) (i:=(i:Int)+1) (j:=v) (x:=w) (by omega) (by omega) h0
 rw[show((i:Int)+1).toNat=i+1 by omega]at this
 rw[this]
 exact wq ⟨λh=>h.symm,λh=>h.symm⟩ _ _
theorem zF{a b:Way}(ha:fZ a.ae)(hb:fZ b.ae):fZ (mR a b).ae:=by
 unfold mR
 split
 ·exact ha
 ·split
  ·exact hb
  ·exact D1 _ _
theorem zG(a b:Way):(mR a b).cost=a.cost∨(mR a b).cost=b.cost:=by
 unfold mR
 split
 ·exact .inl rfl
 ·split
  ·exact .inr rfl
  ·exact .inl rfl
theorem D_{a b:Way}{n:Int}(ha:a.to=n)(hb:b.to=n):(mR a b).to=n:=by
 unfold mR
 split
 ·exact ha
 ·split
  ·exact hb
  ·exact ha
theorem L8{s:List aI}(hs:iO s=true)(ar a:Int):gd s ar a a=0:=by
 have:pO s ar a a=0:=by
  unfold pO
  refine L5 λx hx=>?_
  exact(L3 (OI hs ar a) hx).2.1
 unfold gd
 rw[this];rfl
theorem Ea{s:List aI}(hs:iO s=true)(ar fr:Int){c8:Int}(ha:1<=c8∧c8<=6){W:List Way}{c:Int}(hc:0<=c)(h:mG W (c+1000))(aR:(gt W c8).cost<=c){i:Nat}(hi:i<6):
  mG (oF s ar fr c8 W i) (c+1000)∧gt (oF s ar fr c8 W i) c8=gt W c8:=by
 have hb:=OJ hs ar c8 ((i:Int)+1)
 have hz:=h.cost c8 (by omega) (by omega)
 have ho:=h.cost ((i:Int)+1) (by omega) (by omega)
 have yU:=h.ae ((i:Int)+1) (by omega) (by omega)
 have iZ:fZ (if c8=fr then [(i:Int)+1]else(gt W c8).ae):=by
  split
  ·exact LZ (by omega) (by omega)
  ·exact h.ae c8 (by omega) (by omega)
 have tc:∀w:Way,w.to=(i:Int)+1->fZ w.ae->0<=w.cost->w.cost<=c+1000->¬(gd s ar c8 ((i:Int)+1)=0)->mG (W.set (i+1) w) (c+1000)∧gt (W.set (i+1) w) c8=gt W c8:=by
  intro w h1 h2 h3 h4 h5
  have cP:¬(c8=(i:Int)+1):=by intro e;rw[<-e,L8 hs]at h5;exact h5 rfl
  refine⟨⟨by simp[h.len],λv h6 h7=>?_,λv h6 h7=>?_,λv h6 h7=>?_⟩,?_⟩
  ·rw[sL h.len hi h6];split
   ·exact h2
   ·exact h.ae v h6 h7
  ·rw[sL h.len hi h6];split
   ·exact⟨h3,h4⟩
   ·exact h.cost v h6 h7
  ·rw[sL h.len hi h6];split
   ·rename_i e;rw[e,h1];exact .inr rfl
   ·exact h.to v h6 h7
  ·rw[sL h.len hi (by omega),if_neg cP]
 unfold oF
 by_cases h1:gd s ar c8 ((i:Int)+1)=0∨(i:Int)+1=fr
 ·rw[if_pos h1];exact⟨h,rfl⟩
 rw[if_neg h1]
 by_cases h2:(gt W ((i:Int)+1)).to=0∨(gt W c8).cost+gd s ar c8 ((i:Int)+1)<(gt W ((i:Int)+1)).cost
 ·rw[if_pos h2]
  exact tc _ rfl iZ (by show 0<=(gt W c8).cost+_;omega) (by show(gt W c8).cost+_<=_;omega) (λe=>h1 (.inl e))
 rw[if_neg h2]
 by_cases h3:(gt W c8).cost+gd s ar c8 ((i:Int)+1)=(gt W ((i:Int)+1)).cost
 ·rw[if_pos h3]
  have nc:=(h.to ((i:Int)+1) (by omega) (by omega)).resolve_left (λe=>h2 (.inl e))
  have htc:(mR (gt W ((i:Int)+1)) ⟨(i:Int)+1,(gt W c8).cost+gd s ar c8 ((i:Int)+1),if c8=fr then [(i:Int)+1]else(gt W c8).ae⟩).cost=(gt W ((i:Int)+1)).cost:=by
   rcases zG (gt W ((i:Int)+1)) ⟨(i:Int)+1,(gt W c8).cost+gd s ar c8 ((i:Int)+1),if c8=fr then [(i:Int)+1]else(gt W c8).ae⟩with e|e
   ·exact e
   ·rw[e];exact h3
  exact tc _ (D_ nc rfl) (zF yU iZ) (by rw[htc];omega) (by rw[htc];omega) (λe=>h1 (.inl e))
 ·rw[if_neg h3];exact⟨h,rfl⟩
theorem abD{s:List aI}(hs:iO s=true)(ar fr:Int){c8:Int}(ha:1<=c8∧c8<=6){W:List Way}{c:Int}(hc:0<=c)(h:mG W c):mG (sK s ar fr c8 W) (c+1000)∧gt (sK s ar fr c8 W) c8=gt W c8:=by
 have hl:(List.range 6).length=6:=List.length_range
 exact Oa (l:=List.range 6) (g:=oF s ar fr c8) (c:=W) (Inv:=λ_ W'=>mG W' (c+1000)∧gt W' c8=gt W c8) ⟨h.mono (by omega),rfl⟩ λi W' hi ⟨h1,h2⟩=>by
  rw[hl]at hi
  rw[gC (by rw[hl];omega),List.getElem_range]
  obtain⟨h3,h4⟩:=Ea hs ar fr ha hc h1 (by rw[h2];exact(h.cost c8 (by omega) (by omega)).2) (show i<6 by omega)
  exact⟨h3,h4.trans h2⟩
theorem OK(W:List Way)(D:List Int):(eb W D=0∧∀u:Int,1<=u->u<=6->(gt W u).to≠0->u∈D)∨
  ((1<=eb W D∧eb W D<=6)∧(gt W (eb W D)).to≠0∧eb W D∉D∧∀u:Int,1<=u->u<=6->(gt W u).to≠0->u∉D->(gt W (eb W D)).cost<=(gt W u).cost):=by
 have hl:(List.range 6).length=6:=List.length_range
 have key:=Oa (l:=List.range 6) (g:=D8 W D) (c:=0) (Inv:=λi b=>(b=0∧∀u:Int,1<=u->u<=i->(gt W u).to≠0->u∈D)∨
  ((1<=b∧b<=i)∧(gt W b).to≠0∧b∉D∧∀u:Int,1<=u->u<=i->(gt W u).to≠0->u∉D->(gt W b).cost<=(gt W u).cost)) (.inl ⟨rfl,λu h1 h2=>by omega⟩) λi b hi hb=>by
   rw[hl]at hi
   rw[gC (by rw[hl];omega),List.getElem_range]
   unfold D8
   have hD:∀x:Int,D.contains x=false↔x∉D:=λx=>by rw[<-Bool.not_eq_true,List.contains_iff_mem]
   by_cases hc:¬((gt W ((i:Int)+1)).to=0)∧D.contains ((i:Int)+1)=false∧(b=0∨(gt W ((i:Int)+1)).cost<(gt W b).cost)
   ·rw[if_pos hc]
    refine .inr ⟨by omega,hc.1,(hD _).1 hc.2.1,λu h1 h2 h3 h4=>?_⟩
    by_cases hu:u=(i:Int)+1
    ·rw[hu];exact Int.le_refl _
    ·rcases hb with⟨hb,mU⟩|⟨lC,mU,hb3,hb4⟩
     ·exact absurd (mU u h1 (by omega) h3) h4
     ·have:=hb4 u h1 (by omega) h3 h4
      rcases hc.2.2 with h5|h5
      ·omega
      ·omega
   ·rw[if_neg hc]
    rcases hb with⟨hb,mU⟩|⟨lC,mU,hb3,hb4⟩
    ·refine .inl ⟨hb,λu h1 h2 h3=>?_⟩
     by_cases hu:u=(i:Int)+1
     ·subst hu
      by_cases hm:(i:Int)+1∈D
      ·exact hm
      ·exact absurd ⟨h3,(hD _).2 hm,.inl hb⟩ hc
     ·exact mU u h1 (by omega) h3
    ·refine .inr ⟨by omega,mU,hb3,λu h1 h2 h3 h4=>?_⟩
     by_cases hu:u=(i:Int)+1
     ·subst hu
      have:¬((gt W ((i:Int)+1)).cost<(gt W b).cost):=λh5=>hc ⟨h3,(hD _).2 h4,.inr h5⟩
      omega
     ·exact hb4 u h1 (by omega) h3 h4
 rw[hl]at key
 exact key
structure hX (fr:Int) (W:List Way) (D:List Int):Prop where
 ok:mG W (1000*D.length)
 fr6:1<=fr∧fr<=6
 nd:D.Nodup
 mem:∀v∈D,(1<=v∧v<=6)∧(gt W v).to≠0
 mono:∀v∈D,∀u:Int,1<=u->u<=6->u∉D->(gt W u).to≠0->(gt W v).cost<=(gt W u).cost
 first:(D=[]∧∀u:Int,1<=u->u<=6->(gt W u).to≠0->u=fr)∨fr∈D
theorem abG{D l:List Int}(hn:D.Nodup)(hm:∀v∈D,v∈l):D.length<=l.length:=by
 induction D generalizing l with
 |nil=>simp
 |cons x D ih=>
  have hx:=List.nodup_cons.1 hn
  have hl:=List.length_erase_of_mem (hm x (.head _))
  have hp:0<l.length:=List.length_pos_of_mem (hm x (.head _))
  have:=ih (l:=l.erase x) hx.2 λv hv=>(List.mem_erase_of_ne (show v≠x fromλe=>hx.1 (e▸hv))).2 (hm v (.tail _ hv))
  simp only[List.length_cons];omega
theorem L9{D:List Int}(hn:D.Nodup)(hm:∀v∈D,1<=v∧v<=6):D.length<=6:=
 abG (l:=rL) hn λv hv=>fA.2 (hm v hv)
theorem t_{fr:Int}(h:1<=fr∧fr<=6){v:Int}(h0:0<=v)(h7:v<7):gt (W0 fr) v=if fr=v then⟨fr,0,[]⟩else D9:=by
 unfold W0
 rw[D3 (by omega) (by simp;omega) h0]
 split
 ·rfl
 ·exact L1 h0 (by omega)
theorem hX.start{fr:Int}(h:1<=fr∧fr<=6):hX fr (W0 fr) []:=by
 refine⟨⟨by simp[W0],λv h0 h7=>?_,λv h0 h7=>?_,λv h0 h7=>?_⟩,h,.nil,by simp,by simp,.inl ⟨rfl,λu h1 h2 h3=>?_⟩⟩
 ·rw[t_ h h0 h7];split<;>exact zC
 ·rw[t_ h h0 h7];split<;>simp[D9]
 ·rw[t_ h h0 h7];split
  ·rename_i e;exact .inr e
  ·exact .inl rfl
 ·rw[t_ h (by omega) (by omega)]at h3
  split at h3
  ·rename_i e;exact e.symm
  ·exact absurd rfl h3
theorem abH{s:List aI}(hs:iO s=true)(ar fr:Int){c8:Int}(ha:1<=c8∧c8<=6){W:List Way}{c:Int}(hc:0<=c)(h:mG W c){v:Int}(hv:1<=v∧v<=6):
  gt (sK s ar fr c8 W) v=gt W v∨((gt (sK s ar fr c8 W) v).to=v∧v≠fr∧¬(gd s ar c8 v=0)∧((gt W v).to=0∨(gt W c8).cost+gd s ar c8 v<=(gt W v).cost)∧(gt (sK s ar fr c8 W) v).cost=(gt W c8).cost+gd s ar c8 v):=by
 have hl:(List.range 6).length=6:=List.length_range
 have key:=Oa (l:=List.range 6) (g:=oF s ar fr c8) (c:=W) (Inv:=λi W'=>mG W' (c+1000)∧gt W' c8=gt W c8∧(∀u:Int,(i:Int)<u->u<=6->gt W' u=gt W u)∧∀u:Int,1<=u->u<=i->gt W' u=gt W u∨((gt W' u).to=u∧u≠fr∧¬(gd s ar c8 u=0)∧((gt W u).to=0∨(gt W c8).cost+gd s ar c8 u<=(gt W u).cost)∧(gt W' u).cost=(gt W c8).cost+gd s ar c8 u))
  ⟨h.mono (by omega),rfl,λu _ _=>rfl,λu h1 h2=>by omega⟩ λi W' hi ⟨h1,h2,h3,h4⟩=>by
  rw[hl]at hi
  rw[gC (by rw[hl];omega),List.getElem_range]
  have nP:i<6:=by omega
  obtain⟨h5,h6⟩:=Ea hs ar fr ha hc h1 (by rw[h2];exact(h.cost c8 (by omega) (by omega)).2) nP
  refine⟨h5,h6.trans h2,λu h7 h8=>?_,λu h7 h8=>?_⟩
  ·rw[<-h3 u (by omega) h8]
   unfold oF
   split
   ·rfl
   ·split
    ·rw[sL h1.len nP (by omega),if_neg (by omega)]
    ·split
     ·rw[sL h1.len nP (by omega),if_neg (by omega)]
     ·rfl
  ·by_cases hu:u=(i:Int)+1
   ·subst hu
    have hold:=h3 ((i:Int)+1) (by omega) (by omega)
    unfold oF
    rw[hold,h2]
    by_cases q1:gd s ar c8 ((i:Int)+1)=0∨(i:Int)+1=fr
    ·rw[if_pos q1];exact .inl hold
    rw[if_neg q1]
    by_cases q2:(gt W ((i:Int)+1)).to=0∨(gt W c8).cost+gd s ar c8 ((i:Int)+1)<(gt W ((i:Int)+1)).cost
    ·rw[if_pos q2,sL h1.len nP (by omega),if_pos rfl]
     exact .inr ⟨rfl,λe=>q1 (.inr e),λe=>q1 (.inl e),q2.imp_right (λe=>by omega),rfl⟩
    rw[if_neg q2]
    by_cases q3:(gt W c8).cost+gd s ar c8 ((i:Int)+1)=(gt W ((i:Int)+1)).cost
    ·rw[if_pos q3,sL h1.len nP (by omega),if_pos rfl]
     have nc:=(h.to ((i:Int)+1) (by omega) (by omega)).resolve_left (λe=>q2 (.inl e))
     refine .inr ⟨D_ nc rfl,λe=>q1 (.inr e),λe=>q1 (.inl e),.inr (by omega),?_⟩
     ·rcases zG (gt W ((i:Int)+1)) ⟨(i:Int)+1,(gt W c8).cost+gd s ar c8 ((i:Int)+1),if c8=fr then [(i:Int)+1]else(gt W c8).ae⟩with e|e
      ·rw[e];omega
      ·rw[e]
    ·rw[if_neg q3];exact .inl hold
   ·have hk:gt (oF s ar fr c8 W' i) u=gt W' u:=by
     unfold oF
     split
     ·rfl
     ·split
      ·rw[sL h1.len nP (by omega),if_neg hu]
      ·split
       ·rw[sL h1.len nP (by omega),if_neg hu]
       ·rfl
    rw[hk]
    exact h4 u h7 (by omega)
 rw[hl]at key
 exact key.2.2.2 v hv.1 hv.2
theorem hX.step{s:List aI}(hs:iO s=true)(ar:Int){fr:Int}{W:List Way}{D:List Int}(h:hX fr W D)(hb:eb W D≠0):hX fr (sK s ar fr (eb W D) W) (D++[eb W D]):=by
 obtain⟨h1,h2,h3,h4⟩:=(OK W D).resolve_left λe=>hb e.1
 have hc:(0:Int)<=1000*D.length:=by omega
 obtain⟨g1,g2⟩:=abD hs ar fr h1 hc h.ok
 have rq:=λv hv=>abH hs ar fr h1 hc h.ok (v:=v) hv
 have hold:∀v∈D,gt (sK s ar fr (eb W D) W) v=gt W v:=by
  intro v hv
  rcases rq v (h.mem v hv).1 with e|⟨_,_,e1,e2,_⟩
  ·exact e
  ·have hm:=h.mono v hv _ h1.1 h1.2 h3 h2
   have hk:=OJ hs ar (eb W D) v
   rcases e2 with e2|e2
   ·exact absurd e2 (h.mem v hv).2
   ·omega
 refine⟨?_,h.fr6,?_,λv hv=>?_,λv hv u sd s9 Pr hu4=>?_,?_⟩
 ·refine g1.mono ?_
  simp only[List.length_append,List.length_singleton,Li,Lj];omega
 ·rw[List.nodup_append]
  exact⟨h.nd,by simp,by intro a ha b jU;rw[List.mem_singleton]at jU;subst jU;intro e;exact h3 (e▸ha)⟩
 ·rcases List.mem_append.1 hv with hv|hv
  ·rw[hold v hv];exact h.mem v hv
  ·rw[List.mem_singleton]at hv
   subst hv
   rw[g2];exact⟨h1,h2⟩
 ·have abI:u∉D∧u≠eb W D:=by simpa using Pr
  have hcv:(gt (sK s ar fr (eb W D) W) v).cost<=(gt W (eb W D)).cost:=by
   rcases List.mem_append.1 hv with hv|hv
   ·rw[hold v hv];exact h.mono v hv _ h1.1 h1.2 h3 h2
   ·rw[List.mem_singleton]at hv;subst hv;rw[g2];exact Int.le_refl _
  rcases rq u ⟨sd,s9⟩with e|⟨_,_,_,_,e⟩
  ·rw[e]at hu4⊢
   have:=h4 u sd s9 hu4 abI.1
   omega
  ·have hk:=OJ hs ar (eb W D) u
   omega
 ·right
  rcases h.first with⟨e,hf⟩|hf
  ·rw[hf _ h1.1 h1.2 h2];simp
  ·simp[hf]
theorem hX.full{fr:Int}{W:List Way}{D:List Int}(h:hX fr W D)(hd:D.length=6):eb W D=0:=by
 rcases OK W D with e|⟨h1,h2,h3,_⟩
 ·exact e.1
 ·have hn:(eb W D::D).Nodup:=List.nodup_cons.2 ⟨h3,h.nd⟩
  have:=L9 hn λv hv=>by
   rcases List.mem_cons.1 hv with rfl|hv
   ·exact h1
   ·exact(h.mem v hv).1
  simp at this;omega
theorem hX.len{fr:Int}{W:List Way}{D:List Int}(h:hX fr W D):D.length<=6:=L9 h.nd λv hv=>(h.mem v hv).1
theorem abJ(W:List Way):(AX W).length<=W.length:=List.length_filter_le _ _
theorem wH:rL=(List.range 6).map λi:Nat=>(i:Int)+1:=rfl
theorem uN(a b:List Int)(ha:a.length<=1048576)(hb:b.length<=1048576):n5 [.l (a.map aA),.l (b.map aA)]=some [.l ((qy a b).map aA)]:=by
 rw[Zx];simp(disch:=omega) only[↓pq,↓pj,ps,pz,↓reduceIte,ah,ai,aj,ak,aq,au,av,aw,ax,Ov,DJ]
 refine(qP 6 (λi c=>[.l (c.map aA),ii (i+1)]) (λc i=>if(a.contains ((i:Int)+1)||b.contains ((i:Int)+1))=true then c++[(i:Int)+1]else c) (λc=>some [T.l (c.map aA)]) [] (λi c=>c.length<=i) rfl (et (by omega)) (by simp) ?_ ?_).trans ?_
 ·intro i c hi hc
  refine⟨by split<;>(try simp)<;>omega,λq=>?_⟩
  have bR:(i:Int)+1<=6:=by omega
  cases h1:a.contains ((i:Int)+1)<;>cases h2:b.contains ((i:Int)+1)<;>simp(disch:=omega) only[↓pq,↓pj,ps,pz,↓reduceIte,ah,ai,aj,ak,aq,au,av,aw,ax,Ov,bR,L0 _ _ ha,L0 _ _ hb,h1,h2,Bool.or_true,Bool.or_false,cA]
 ·intro c q hc
  simp(disch:=omega) only[↓pq,↓pj,ps,pz,↓reduceIte,ah,ai,aj,ak,aq,au,av,aw,ax,Ov,]
 ·rw[Ft (λi:Nat=>a.contains ((i:Int)+1)||b.contains ((i:Int)+1)) (λi:Nat=>(i:Int)+1),List.nil_append]
  unfold qy
  rw[wH,List.filter_map]
  rfl
theorem abK(a b:Int)(t:T)(a' b':Int)(t':T):FN [ii a,ii b,t,ii a',ii b',t']=some [bb (decide (b<b'))]:=by
 rw[ZG];simp(disch:=omega) only[↓pq,↓pj,ps,pz,↓reduceIte,ah,ai,aj,ak,aq,au,av,aw,ax,DM]
theorem L_(a b:Int)(l:List Int)(a' b':Int)(l':List Int)(h:l.length<=1048576)(h':l'.length<=1048576):zp [ii a,ii b,.l (l.map aA),ii a',ii b',.l (l'.map aA)]=some (bM (mR ⟨a,b,l⟩ ⟨a',b',l'⟩)):=by
 rw[ZJ];simp(disch:=omega) only[↓pq,↓pj,ps,pz,↓reduceIte,ah,ai,aj,ak,aq,au,av,aw,ax,ZH,abK,kU_ _ _ _ h,kU_ _ _ _ h',uN _ _ h h']
 unfold mR
 by_cases h1:b<b'
 ·have h2:b'>b:=h1
  simp only[h1,h2,if_true];rfl
 ·have h2:¬(b'>b):=h1
  by_cases h3:b'<b
  ·have h4:b>b':=h3
   simp only[h1,h2,h3,h4,if_true,if_false];rfl
  ·have h4:¬(b>b'):=h3
   simp only[h1,h2,h3,h4,if_false];rfl
def pi(W:List Way):List Int:=pP λi=>if i=0 then 0 else if(gt W (i:Int)).to=0 then -1 else(gt W (i:Int)).cost
def qU(W:List Way):List (List Int):=pP λi=>(gt W (i:Int)).ae
def sM(D:List Int):List Bool:=pP λi=>D.contains (i:Int)
theorem L'(W:List Way){v:Int}(h:1<=v)(h':v<=6):gt (pi W) v=if(gt W v).to=0 then -1 else(gt W v).cost:=by
 unfold pi
 rw[D7 _ (by omega) (by omega),if_neg (by omega),show((v.toNat:Nat):Int)=v by omega]
theorem Eb(W:List Way){v:Int}(h:0<=v)(h':v<=6):gt (qU W) v=(gt W v).ae:=by
 unfold qU
 rw[D7 _ h (by omega),show((v.toNat:Nat):Int)=v by omega]
theorem Ec(D:List Int){v:Int}(h:0<=v)(h':v<=6):gt (sM D) v=D.contains v:=by
 unfold sM
 rw[D7 _ h (by omega),show((v.toNat:Nat):Int)=v by omega]
theorem Ed(W:List Way):(pi W).length=7:=wF _
theorem Ee(W:List Way):(qU W).length=7:=wF _
theorem Ef(D:List Int):(sM D).length=7:=wF _
theorem Ma{W:List Way}(hl:W.length=7){i:Nat}(hi:i<6){w:Way}(ht:w.to≠0):pi (W.set (i+1) w)=(pi W).set (i+1) w.cost:=by
 unfold pi
 rw[wG]
 refine Gr λj hj=>?_
 rw[sL hl hi (by omega)]
 by_cases h:j=i+1
 ·subst h
  simp[ht]
 ·rw[if_neg (show¬((j:Int)=(i:Int)+1) by omega),if_neg h]
theorem Gs{W:List Way}(hl:W.length=7){i:Nat}(hi:i<6)(w:Way):qU (W.set (i+1) w)=(qU W).set (i+1) w.ae:=by
 unfold qU
 rw[wG]
 refine Gr λj hj=>?_
 rw[sL hl hi (by omega)]
 by_cases h:j=i+1
 ·subst h
  rw[if_pos (by simp),if_pos rfl]
 ·rw[if_neg (show¬((j:Int)=(i:Int)+1) by omega),if_neg h]
theorem Mb{W:List Way}(hl:W.length=7){i:Nat}(hi:i<6){w:Way}(ht:w.to≠0)(h0:(gt W ((i:Int)+1)).to≠0)(hc:w.cost=(gt W ((i:Int)+1)).cost):pi (W.set (i+1) w)=pi W:=by
 rw[Ma hl hi ht]
 unfold pi
 rw[wG]
 refine Gr λj hj=>?_
 by_cases h:j=i+1
 ·subst h
  rw[if_pos rfl,if_neg (by omega),if_neg (by simpa using h0),hc]
  simp
 ·rw[if_neg h]
theorem abL(D:List Int){b:Int}(h:1<=b)(h':b<=6):(sM D).set b.toNat true=sM (D++[b]):=by
 unfold sM
 rw[wG]
 refine Gr λj hj=>?_
 by_cases e:j=b.toNat
 ·rw[if_pos e]
  have:(j:Int)=b:=by omega
  rw[this]
  simp
 ·rw[if_neg e]
  have:¬((j:Int)=b):=by omega
  rw[Bool.eq_iff_iff,List.contains_iff_mem,List.contains_iff_mem]
  simp[this]
theorem abM{W:List Way}(h:W.length=7):W=pP λi=>gt W (i:Int):=by
 refine List.ext_getElem (by rw[wF,h]) λi h1 h2=>?_
 simp only[pP,List.getElem_map,List.getElem_range]
 rw[gC h1]
theorem abN{s:List aI}(hs:iO s=true){ar fr:Int}{F:ay->ay}(st:Int->List Way->List Int->List T){out:List Way->Option (List T)}
  (hA:∀W D q,hX fr W D->D.length<6->eb W D=0->F q (st (D.length+1) W D)=q (st 7 W D))
  (hB:∀W D q,hX fr W D->D.length<6->eb W D≠0->F q (st (D.length+1) W D)=q (st (D.length+1+1) (sK s ar fr (eb W D) W) (D++[eb W D])))
  (fin:∀W D q,hX fr W D->eb W D=0->F q (st 7 W D)=out W):
  ∀k W D R,hX fr W D->D.length+k=6->k+1<R->iter F R (st (D.length+1) W D)=out (uM s ar fr k W D):=by
 intro k
 induction k with
 |zero=>
  intro W D R h hk hR
  cases R with
  |zero=>omega
  |succ R=>
   have hb:=h.full (by omega)
   unfold iter
   rw[show((D.length:Int)+1)=7 by omega]
   exact fin W D _ h hb
 |succ k ih=>
  intro W D R h hk hR
  cases R with
  |zero=>omega
  |succ R=>
   unfold iter
   by_cases hb:eb W D=0
   ·rw[hA W D _ h (by omega) hb]
    cases R with
    |zero=>omega
    |succ R=>
     unfold iter
     rw[fin W D _ h hb]
     unfold uM
     rw[if_pos hb]
   ·rw[hB W D _ h (by omega) hb]
    have:=ih _ _ R (h.step hs ar hb) (by simp;omega) (by omega)
    rw[show(((D++[eb W D]).length:Int)+1)=D.length+1+1 by simp]at this
    rw[this]
    conv=>rhs;unfold uM
    rw[if_neg hb]
theorem abO{W:List Way}{D:List Int}{fr:Int}(h:hX fr W D)(hb:eb W D=0):AX W=((List.range 6).filter λi:Nat=>D.contains ((i:Int)+1)).map λi:Nat=>(⟨(i:Int)+1,(gt W ((i:Int)+1)).cost,(gt W ((i:Int)+1)).ae⟩:Way):=by
 have hD:=((OK W D).resolve_right λe=>by omega).2
 have e:W=gt W 0::(List.range 6).map λi:Nat=>gt W ((i:Int)+1):=(abM h.ok.len).trans rfl
 have h0:(gt W 0).to=0:=(h.ok.to 0 (by omega) (by omega)).elim id id
 have hf:AX W=(((List.range 6).map λi:Nat=>gt W ((i:Int)+1)).filter λw=>!(w.to==0)):=by
  unfold AX
  conv=>lhs;rw[e]
  rw[List.filter_cons,if_neg (by simp[h0])]
 rw[hf,List.filter_map]
 have hp:∀i:Nat,i∈List.range 6->((λw:Way=>!(w.to==0))∘λi:Nat=>gt W ((i:Int)+1)) i=D.contains ((i:Int)+1):=by
  intro i hi
  have hi:i<6:=by simpa using hi
  rw[Bool.eq_iff_iff,List.contains_iff_mem]
  simp only[Function.comp,Bool.not_eq_true',beq_eq_false_iff_ne]
  exact⟨λh1=>hD _ (by omega) (by omega) h1,λh1=>(h.mem _ h1).2⟩
 rw[List.filter_congr hp]
 refine List.map_congr_left λi hi=>?_
 obtain⟨h1,h2⟩:=List.mem_filter.1 hi
 have h1:i<6:=by simpa using h1
 have h3:=(h.mem _ (List.contains_iff_mem.1 h2)).2
 have h4:=(h.ok.to ((i:Int)+1) (by omega) (by omega)).resolve_left h3
 have hw:∀(w:Way) (n:Int),w.to=n->w=⟨n,w.cost,w.ae⟩:=by intro w n hn;subst hn;rfl
 exact hw _ _ h4
set_option maxHeartbeats 1600000 in
theorem Eg(s:List aI)(ar fr:Int)(h:s.length<=1048576)(hn:dj s):uz [.l (s.map bh),ii ar,ii fr]=some [.l ((eX s ar fr).map bM)]:=by
 obtain⟨c0,c1,c2,c3,c4,c6,c7,e⟩:=jN_ s ar fr h
 rw[Zz];simp(disch:=omega) only[↓pq,↓pj,ps,pz,↓reduceIte,ah,ai,aj,ak,aq,au,av,aw,ax,mB,mC,mD,lU,mE,DK,e,OG _ h hn,AU]
 unfold eX
 cases hs:iO s with
 |false=>simp
 |true=>
 cases h6:jg fr 1 6 with
 |false=>simp
 |true=>
 have h6':=bU.1 h6
 by_cases hq:0<=og s ar fr
 case neg=>simp[hq]
 rw[if_pos (show(true=true∧true=true∧0<=og s ar fr) from⟨rfl,rfl,hq⟩)]
 have m1:=tX (enc:=aA) (n:=7) (x:=0) (vs:=[ii 0]) (by decide) rfl
 have m2:=tX (enc:=sH) (n:=7) (x:=[]) (vs:=[.l []]) (by decide) rfl
 have m3:=tX (enc:=fC) (n:=7) (x:=false) (vs:=[bb false]) (by decide) rfl
 simp only[not_true_eq_false,if_false,hq]
 rw[abC _ _ h hn hs,Df]
 rw[show Prim.ev .mk [ii 7,ii 7,ii 0]=some (.l ((List.replicate 7 (0:Int)).map aA)) from m1,oe,show Prim.ev .mk [ii 7,ii 7,.l []]=some (.l ((List.replicate 7 ([]:List Int)).map sH)) from m2,oe,
  show Prim.ev .mk [ii 7,ii 7,bb false]=some (.l ((List.replicate 7 false).map fC)) from m3,oe]
 have AY:∀w:List Int,fZ w->n5 [.l [],.l (w.map aA)]=some [.l (w.map aA)]:=λw hw=>by
  have:=uN [] w (by simp) (by have:=lM hw;omega)
  rw[Gn hw]at this
  exact this
 have hML:=aby s ar
 have sel:∀W D q,hX fr W D->D.length<6->lU rounds n5 (ii fr) (T.l []) (T.l (List.map aA (wE s ar))) q [ii (D.length+1),.l ((qU W).map sH),.l ((sM D).map fC),.l ((pi W).map aA)]=
   if eb W D=0 then q [ii 7,.l ((qU W).map sH),.l ((sM D).map fC),.l ((pi W).map aA)]
   else q [ii (D.length+1+1),.l ((qU (sK s ar fr (eb W D) W)).map sH),.l ((sM (D++[eb W D])).map fC),.l ((pi (sK s ar fr (eb W D) W)).map aA)]:=by
  intro W D q hI hD
  have hle:(D.length:Int)+1<=6:=by omega
  have hW:=hI.ok
  have hWl:=hW.len
  have l1:=Ef D
  have l2:=Ed W
  have l3:=Ee W
  simp(disch:=omega) only[↓pq,↓pj,ps,pz,↓reduceIte,ah,ai,aj,ak,aq,au,av,aw,ax,mB,mC,mD,lU,mE,hle]
  refine qP 6 (λi b=>[ii b,ii (i+1)]) (D8 W D) (λb=>if b=0 then q [ii 7,.l ((qU W).map sH),.l ((sM D).map fC),.l ((pi W).map aA)]
   else q [ii (D.length+1+1),.l ((qU (sK s ar fr b W)).map sH),.l ((sM (D++[b])).map fC),.l ((pi (sK s ar fr b W)).map aA)]) 0 (λi b=>b=(List.range i).foldl (D8 W D) 0∧0<=b∧b<=6∧(b≠0->(gt W b).to≠0)) rfl (et (by omega)) (by simp) ?_ ?_
  ·intro i b hi ⟨II,B4,hb6,uw⟩
   refine⟨⟨by rw[List.range_succ,List.foldl_append,<-II];rfl,?_⟩,λw=>?_⟩
   ·unfold D8
    split
    ·rename_i hx;exact⟨by omega,by omega,λ_=>hx.1⟩
    ·exact⟨B4,hb6,uw⟩
   ·have bR:(i:Int)+1<=6:=by omega
    have mK:=L' W (v:=(i:Int)+1) (by omega) bR
    have eo:=Ec D (v:=(i:Int)+1) (by omega) bR
    have hco:=hW.cost ((i:Int)+1) (by omega) (by omega)
    unfold D8
    cases zH:D.contains ((i:Int)+1)with
    |true=>simp(disch:=omega) only[↓pq,↓pj,ps,pz,↓reduceIte,ah,ai,aj,ak,aq,au,av,aw,ax,mB,mC,mD,lU,mE,bR,eo,zH];simp
    |false=>
     by_cases q1:(gt W ((i:Int)+1)).to=0
     ·simp(disch:=omega) only[↓pq,↓pj,ps,pz,↓reduceIte,ah,ai,aj,ak,aq,au,av,aw,ax,mB,mC,mD,lU,mE,bR,eo,zH,mK,q1,cA]
      simp
     ·have HN:(gt W ((i:Int)+1)).cost>=0:=hco.1
      by_cases q2:b=0
      ·simp(disch:=omega) only[↓pq,↓pj,ps,pz,↓reduceIte,ah,ai,aj,ak,aq,au,av,aw,ax,mB,mC,mD,lU,mE,bR,eo,zH,mK,q1,q2,HN,cA]
       simp
      ·have na:=L' W (v:=b) (by omega) hb6
       have nQ:=uw q2
       by_cases q3:(gt W ((i:Int)+1)).cost<(gt W b).cost
       ·simp(disch:=omega) only[↓pq,↓pj,ps,pz,↓reduceIte,ah,ai,aj,ak,aq,au,av,aw,ax,mB,mC,mD,lU,mE,bR,eo,zH,mK,na,nQ,q1,q2,q3,HN,cA]
        simp
       ·simp(disch:=omega) only[↓pq,↓pj,ps,pz,↓reduceIte,ah,ai,aj,ak,aq,au,av,aw,ax,mB,mC,mD,lU,mE,bR,eo,zH,mK,na,nQ,q1,q2,q3,HN,cA]
        simp
  ·intro b w ⟨II,B4,hb6,uw⟩
   by_cases hb:b=0
   ·simp(disch:=omega) only[↓pq,↓pj,ps,pz,↓reduceIte,ah,ai,aj,ak,aq,au,av,aw,ax,mB,mC,mD,lU,mE,hb]
   have hbb:b=eb W D:=II
   have lC:1<=b∧b<=6:=by omega
   obtain⟨g1,g2,g3,g4⟩:=(OK W D).resolve_left λe=>hb (hbb.trans e.1)
   rw[<-hbb]at g1 g2 g3 g4
   have na:=hW.cost b (by omega) (by omega)
   have l4:=Ef (D++[b])
   have abR:fr∈D++[b]:=by
    rcases hI.first with⟨e,hf⟩|hf
    ·rw[hf b g1.1 g1.2 g2];simp
    ·simp[hf]
   simp(disch:=omega) only[↓pq,↓pj,ps,pz,↓reduceIte,ah,ai,aj,ak,aq,au,av,aw,ax,mB,mC,mD,lU,mE,hb,D2,abL D lC.1 lC.2]
   refine qP 6 (λi W'=>[ii (i+1),.l ((qU W').map sH),.l ((pi W').map aA)]) (oF s ar fr b) (λW'=>q [ii (D.length+1+1),.l ((qU W').map sH),.l ((sM (D++[b])).map fC),.l ((pi W').map aA)]) W (λi W'=>mG W' (1000*D.length+1000)∧gt W' b=gt W b∧∀v∈D,gt W' v=gt W v) rfl (et (by omega)) ⟨hW.mono (by omega),rfl,λ_ _=>rfl⟩ ?_ ?_
   ·intro i W' hi ⟨wg,nf,hgD⟩
    have nP:i<6:=by omega
    have cU:=Ea hs ar fr lC (by omega) wg (by rw[nf];exact na.2) nP
    have bR:(i:Int)+1<=6:=by omega
    have lk:=wg.len
    have BR:=OJ hs ar b ((i:Int)+1)
    have alv:=wg.cost b (by omega) (by omega)
    have alw:=wg.cost ((i:Int)+1) (by omega) (by omega)
    have Mc:=wg.ae b (by omega) (by omega)
    have yU:=wg.ae ((i:Int)+1) (by omega) (by omega)
    have hhl:=lM Mc
    have aly:=lM yU
    have l5:=Ed W'
    have l6:=Ee W'
    have hM:=abB hs ar (u:=b) (v:=(i:Int)+1) lC (by omega)
    have mK:=L' W' (v:=(i:Int)+1) (by omega) bR
    have ln:=L' W' (v:=b) lC.1 lC.2
    have nQ:(gt W' b).to≠0:=by rw[nf];exact g2
    have eo:=Ec (D++[b]) (v:=(i:Int)+1) (by omega) bR
    have qp:=Eb W' (v:=(i:Int)+1) (by omega) bR
    have sm:=Eb W' (v:=b) (by omega) lC.2
    have xm:((i:Int)+1).toNat=i+1:=by omega
    have nc:=wg.to ((i:Int)+1) (by omega) (by omega)
    have stay:((i:Int)+1∈D++[b])->gd s ar b ((i:Int)+1)≠0->oF s ar fr b W' i=W':=by
     intro hm cP
     unfold oF
     by_cases e:gd s ar b ((i:Int)+1)=0∨(i:Int)+1=fr
     ·rw[if_pos e]
     ·rw[if_neg e]
      rcases List.mem_append.1 hm with hm|hm
      ·have h1:=hgD _ hm
       have h2:=(hI.mem _ hm).2
       have h3:=hI.mono _ hm b g1.1 g1.2 g3 g2
       rw[h1,nf]
       rw[if_neg (by rintro(h4|h4);exact h2 h4;omega),if_neg (by omega)]
      ·rw[List.mem_singleton]at hm
       rw[hm,L8 hs]at cP
       exact absurd rfl cP
    refine⟨⟨cU.1,cU.2.trans nf,λv hv=>?_⟩,λw=>?_⟩
    ·rw[<-hgD v hv]
     by_cases e:v=(i:Int)+1
     ·by_cases e2:gd s ar b ((i:Int)+1)=0
      ·unfold oF;rw[if_pos (.inl e2)]
      ·rw[stay (List.mem_append.2 (.inl (e▸hv))) e2]
     ·have vC:=(hI.mem v hv).1
      unfold oF
      split
      ·rfl
      ·split
       ·rw[sL lk nP (by omega),if_neg e]
       ·split
        ·rw[sL lk nP (by omega),if_neg e]
        ·rfl
    by_cases q1:gd s ar b ((i:Int)+1)=0
    ·simp(disch:=omega) only[↓pq,↓pj,ps,pz,↓reduceIte,ah,ai,aj,ak,aq,au,av,aw,ax,mB,mC,mD,lU,mE,bR,hM,q1]
     unfold oF
     rw[if_pos (.inl q1)]
    cases q2:(D++[b]).contains ((i:Int)+1)with
    |true=>
     rw[stay (List.contains_iff_mem.1 q2) q1]
     simp(disch:=omega) only[↓pq,↓pj,ps,pz,↓reduceIte,ah,ai,aj,ak,aq,au,av,aw,ax,mB,mC,mD,lU,mE,bR,hM,q1,eo,q2]
    |false=>
     have q2':¬((i:Int)+1=fr):=λe=>by
      have:=List.contains_iff_mem.2 abR
      rw[<-e,q2]at this;cases this
     by_cases q3:b=fr
     ·skip
      have vq:oF s ar fr b W' i=(if(gt W' ((i:Int)+1)).to=0∨(gt W' b).cost+gd s ar b ((i:Int)+1)<(gt W' ((i:Int)+1)).cost then W'.set (i+1) ⟨(i:Int)+1,(gt W' b).cost+gd s ar b ((i:Int)+1),[(i:Int)+1]⟩
       else if(gt W' b).cost+gd s ar b ((i:Int)+1)=(gt W' ((i:Int)+1)).cost then W'.set (i+1) (mR (gt W' ((i:Int)+1)) ⟨(i:Int)+1,(gt W' b).cost+gd s ar b ((i:Int)+1),[(i:Int)+1]⟩)else W'):=by
       unfold oF
       rw[if_neg (by rintro(h1|h1);exact q1 h1;exact q2' h1),if_pos q3]
      rw[vq]
      by_cases q4:(gt W' ((i:Int)+1)).to=0
      ·rw[if_pos (.inl q4),Gs lk nP,Ma lk nP (by show(i:Int)+1≠0;omega)]
       simp(disch:=omega) only[↓pq,↓pj,ps,pz,↓reduceIte,ah,ai,aj,ak,aq,au,av,aw,ax,mB,mC,mD,lU,mE,bR,hM,q1,eo,q2,mK,ln,qp,sm,nQ,eq_true q3,AY _ (LZ (n:=(i:Int)+1) (by omega) (by omega)),wD,AW,xm,zD,cA,q4]
      have xn:¬((gt W' ((i:Int)+1)).cost<0):=by omega
      by_cases q5:(gt W' b).cost+gd s ar b ((i:Int)+1)<(gt W' ((i:Int)+1)).cost
      ·rw[if_pos (.inr q5),Gs lk nP,Ma lk nP (by show(i:Int)+1≠0;omega)]
       simp(disch:=omega) only[↓pq,↓pj,ps,pz,↓reduceIte,ah,ai,aj,ak,aq,au,av,aw,ax,mB,mC,mD,lU,mE,bR,hM,q1,eo,q2,mK,ln,qp,sm,nQ,eq_true q3,AY _ (LZ (n:=(i:Int)+1) (by omega) (by omega)),wD,AW,xm,zD,cA,q4,xn,q5]
      rw[if_neg (by rintro(h1|h1);exact q4 h1;exact q5 h1)]
      by_cases q6:(gt W' b).cost+gd s ar b ((i:Int)+1)=(gt W' ((i:Int)+1)).cost
      ·have Eh:mR (gt W' ((i:Int)+1)) ⟨(i:Int)+1,(gt W' b).cost+gd s ar b ((i:Int)+1),[(i:Int)+1]⟩=⟨(gt W' ((i:Int)+1)).to,(gt W' ((i:Int)+1)).cost,qy (gt W' ((i:Int)+1)).ae ([(i:Int)+1])⟩:=by
        unfold mR
        rw[if_neg (by show¬((gt W' b).cost+_>_);omega),if_neg (by show¬(_>(gt W' b).cost+_);omega)]
       rw[if_pos q6,Eh,Gs lk nP,Mb (w:=⟨(gt W' ((i:Int)+1)).to,(gt W' ((i:Int)+1)).cost,qy (gt W' ((i:Int)+1)).ae [(i:Int)+1]⟩) lk nP q4 q4 rfl]
       have hu:=uN (gt W' ((i:Int)+1)).ae ([(i:Int)+1]) (by omega) (by simp)
       have q5':¬((gt W' ((i:Int)+1)).cost<(gt W' ((i:Int)+1)).cost):=by omega
       simp(disch:=omega) only[↓pq,↓pj,ps,pz,↓reduceIte,ah,ai,aj,ak,aq,au,av,aw,ax,mB,mC,mD,lU,mE,bR,hM,q1,eo,q2,mK,ln,qp,sm,nQ,eq_true q3,AY _ (LZ (n:=(i:Int)+1) (by omega) (by omega)),wD,AW,xm,zD,cA,q4,xn,q5,q5',q6,hu]
      ·rw[if_neg q6]
       simp(disch:=omega) only[↓pq,↓pj,ps,pz,↓reduceIte,ah,ai,aj,ak,aq,au,av,aw,ax,mB,mC,mD,lU,mE,bR,hM,q1,eo,q2,mK,ln,qp,sm,nQ,eq_true q3,AY _ (LZ (n:=(i:Int)+1) (by omega) (by omega)),wD,AW,xm,zD,cA,q4,xn,q5,q6]
     ·skip
      have vq:oF s ar fr b W' i=(if(gt W' ((i:Int)+1)).to=0∨(gt W' b).cost+gd s ar b ((i:Int)+1)<(gt W' ((i:Int)+1)).cost then W'.set (i+1) ⟨(i:Int)+1,(gt W' b).cost+gd s ar b ((i:Int)+1),(gt W' b).ae⟩
       else if(gt W' b).cost+gd s ar b ((i:Int)+1)=(gt W' ((i:Int)+1)).cost then W'.set (i+1) (mR (gt W' ((i:Int)+1)) ⟨(i:Int)+1,(gt W' b).cost+gd s ar b ((i:Int)+1),(gt W' b).ae⟩)else W'):=by
       unfold oF
       rw[if_neg (by rintro(h1|h1);exact q1 h1;exact q2' h1),if_neg q3]
      rw[vq]
      by_cases q4:(gt W' ((i:Int)+1)).to=0
      ·rw[if_pos (.inl q4),Gs lk nP,Ma lk nP (by show(i:Int)+1≠0;omega)]
       simp(disch:=omega) only[↓pq,↓pj,ps,pz,↓reduceIte,ah,ai,aj,ak,aq,au,av,aw,ax,mB,mC,mD,lU,mE,bR,hM,q1,eo,q2,mK,ln,qp,sm,nQ,eq_false q3,AY _ Mc,wD,AW,xm,zD,cA,q4]
      have xn:¬((gt W' ((i:Int)+1)).cost<0):=by omega
      by_cases q5:(gt W' b).cost+gd s ar b ((i:Int)+1)<(gt W' ((i:Int)+1)).cost
      ·rw[if_pos (.inr q5),Gs lk nP,Ma lk nP (by show(i:Int)+1≠0;omega)]
       simp(disch:=omega) only[↓pq,↓pj,ps,pz,↓reduceIte,ah,ai,aj,ak,aq,au,av,aw,ax,mB,mC,mD,lU,mE,bR,hM,q1,eo,q2,mK,ln,qp,sm,nQ,eq_false q3,AY _ Mc,wD,AW,xm,zD,cA,q4,xn,q5]
      rw[if_neg (by rintro(h1|h1);exact q4 h1;exact q5 h1)]
      by_cases q6:(gt W' b).cost+gd s ar b ((i:Int)+1)=(gt W' ((i:Int)+1)).cost
      ·have Eh:mR (gt W' ((i:Int)+1)) ⟨(i:Int)+1,(gt W' b).cost+gd s ar b ((i:Int)+1),(gt W' b).ae⟩=⟨(gt W' ((i:Int)+1)).to,(gt W' ((i:Int)+1)).cost,qy (gt W' ((i:Int)+1)).ae ((gt W' b).ae)⟩:=by
        unfold mR
        rw[if_neg (by show¬((gt W' b).cost+_>_);omega),if_neg (by show¬(_>(gt W' b).cost+_);omega)]
       rw[if_pos q6,Eh,Gs lk nP,Mb (w:=⟨(gt W' ((i:Int)+1)).to,(gt W' ((i:Int)+1)).cost,qy (gt W' ((i:Int)+1)).ae (gt W' b).ae⟩) lk nP q4 q4 rfl]
       have hu:=uN (gt W' ((i:Int)+1)).ae ((gt W' b).ae) (by omega) (by omega)
       have q5':¬((gt W' ((i:Int)+1)).cost<(gt W' ((i:Int)+1)).cost):=by omega
       simp(disch:=omega) only[↓pq,↓pj,ps,pz,↓reduceIte,ah,ai,aj,ak,aq,au,av,aw,ax,mB,mC,mD,lU,mE,bR,hM,q1,eo,q2,mK,ln,qp,sm,nQ,eq_false q3,AY _ Mc,wD,AW,xm,zD,cA,q4,xn,q5,q5',q6,hu]
      ·rw[if_neg q6]
       simp(disch:=omega) only[↓pq,↓pj,ps,pz,↓reduceIte,ah,ai,aj,ak,aq,au,av,aw,ax,mB,mC,mD,lU,mE,bR,hM,q1,eo,q2,mK,ln,qp,sm,nQ,eq_false q3,AY _ Mc,wD,AW,xm,zD,cA,q4,xn,q5,q6]
   ·intro W' w _
    simp(disch:=omega) only[↓pq,↓pj,ps,pz,↓reduceIte,ah,ai,aj,ak,aq,au,av,aw,ax,mB,mC,mD,lU,mE,]
 refine qP 6 (λi c=>[ii (i+1),.l (c.map aA)]) (λc i=>c.set (i+1) (-1)) (λc=>if c=[0,-1,-1,-1,-1,-1,-1]then some [T.l ((AX (uM s ar fr 6 (W0 fr) [])).map bM)]else none) (List.replicate 7 0) (λi c=>c=(List.range i).foldl (λc i=>c.set (i+1) (-1)) (List.replicate 7 0)) rfl (et (by omega)) rfl ?_ ?_ |>.trans (by rfl)
 ·intro i c hi hc
  have hl:c.length=7:=by rw[hc,D5 (λM x=>by simp)];simp
  have bR:(i:Int)+1<=6:=by omega
  have xm:((i:Int)+1).toNat=i+1:=by omega
  refine⟨by rw[List.range_succ,List.foldl_append,<-hc];rfl,λq=>?_⟩
  simp(disch:=omega) only[↓pq,↓pj,ps,pz,↓reduceIte,ah,ai,aj,ak,aq,au,av,aw,ax,mB,mC,mD,lU,mE,bR,wD,xm]
 ·intro c q hc
  have hc:c=[0,-1,-1,-1,-1,-1,-1]:=hc
  rw[hc,if_pos rfl]
  have bH:fr<(([0,-1,-1,-1,-1,-1,-1]:List Int).length:Int):=by simp;omega
  have j4:Prim.ev (.put true 1 0 1) [.l (([0,-1,-1,-1,-1,-1,-1]:List Int).map aA),ii fr,ii 0]=some (.l ((pi (W0 fr)).map aA)):=by
   rw[wD (by omega) bH]
   congr 3
   unfold pi
   rw[show([0,-1,-1,-1,-1,-1,-1]:List Int)=pP (λi=>if i=0 then 0 else -1) from rfl,wG]
   refine Gr λi hi=>?_
   rw[t_ h6' (by omega) (by omega)]
   by_cases e:i=fr.toNat
   ·have e1:fr=(i:Int):=by omega
    have e2:¬(i=0):=by omega
    rw[if_pos e,if_neg e2,if_pos e1]
    show(0:Int)=if fr=0 then -1 else 0
    rw[if_neg (by omega)]
   ·have e1:¬(fr=(i:Int)):=by omega
    rw[if_neg e,if_neg e1]
    by_cases e0:i=0
    ·rw[if_pos e0,if_pos e0]
    ·rw[if_neg e0,if_neg e0];rfl
  have hh:(List.replicate 7 ([]:List Int))=qU (W0 fr):=by
   show pP (λ_=>[])=_
   unfold qU
   refine Gr λi hi=>?_
   rw[t_ h6' (by omega) (by omega)]
   split<;>rfl
  have mN:List.replicate 7 false=sM []:=rfl
  simp(disch:=omega) only[↓pq,↓pj,ps,pz,↓reduceIte,ah,ai,aj,ak,aq,au,av,aw,ax,mB,mC,mD,lU,mE,j4,hh,mN]
  refine abN (s:=s) hs (ar:=ar) (fr:=fr) (λr W D=>[ii r,.l ((qU W).map sH),.l ((sM D).map fC),.l ((pi W).map aA)]) (out:=λW=>some [T.l ((AX W).map bM)]) ?_ ?_ ?_ 6 (W0 fr) [] rounds (hX.start h6') rfl (by unfold rounds;omega)
  ·intro W D q hI hD hb
   rw[sel W D q hI hD,if_pos hb]
  ·intro W D q hI hD hb
   rw[sel W D q hI hD,if_neg hb]
  ·intro W D q hI hb
   have l1:=Ef D
   have l2:=Ed W
   have l3:=Ee W
   simp(disch:=omega) only[↓pq,↓pj,ps,pz,↓reduceIte,ah,ai,aj,ak,aq,au,av,aw,ax,mB,mC,mD,lU,mE,]
   refine(qP 6 (λi c=>[.l (c.map bM),ii (i+1)]) (λc i=>if D.contains ((i:Int)+1)=true then c++[⟨(i:Int)+1,(gt W ((i:Int)+1)).cost,(gt W ((i:Int)+1)).ae⟩]else c) (λc=>some [T.l (c.map bM)]) [] (λi c=>c.length<=i) rfl (et (by omega)) (by simp) ?_ ?_).trans (by rw[Ft (λi:Nat=>D.contains ((i:Int)+1)) (λi:Nat=>(⟨(i:Int)+1,(gt W ((i:Int)+1)).cost,(gt W ((i:Int)+1)).ae⟩:Way)),List.nil_append,<-abO hI hb])
   ·intro i c hi hc
    refine⟨by split<;>(try simp)<;>omega,λw=>?_⟩
    have bR:(i:Int)+1<=6:=by omega
    have eo:=Ec D (v:=(i:Int)+1) (by omega) bR
    have mK:=L' W (v:=(i:Int)+1) (by omega) bR
    have qp:=Eb W (v:=(i:Int)+1) (by omega) bR
    have hhl:=lM (hI.ok.ae ((i:Int)+1) (by omega) (by omega))
    cases zH:D.contains ((i:Int)+1)with
    |false=>simp(disch:=omega) only[↓pq,↓pj,ps,pz,↓reduceIte,ah,ai,aj,ak,aq,au,av,aw,ax,mB,mC,mD,lU,mE,bR,eo,zH,cA]
    |true=>
     have ht:=(hI.mem _ (List.contains_iff_mem.1 zH)).2
     simp(disch:=omega) only[↓pq,↓pj,ps,pz,↓reduceIte,ah,ai,aj,ak,aq,au,av,aw,ax,mB,mC,mD,lU,mE,bR,eo,zH,mK,qp,ht,zD]
   ·intro c w hc
    simp(disch:=omega) only[↓pq,↓pj,ps,pz,↓reduceIte,ah,ai,aj,ak,aq,au,av,aw,ax,mB,mC,mD,lU,mE,]
def gU(o:Option Way)(w:Way):Option Way:=match o with|none=>some w|some b=>some (mR b w)
def jQ(l:List Way):Option Way:=l.foldl gU none
theorem abT(l:List Way)(w:Way):jQ (l++[w])=gU (jQ l) w:=by simp[jQ]
def Ei(l:List Way)(b:Way):Prop:=fZ b.ae∧(∃x∈l,x.cost=b.cost)∧(∀x∈l,b.cost<=x.cost)∧∀h,h∈b.ae↔∃x∈l,x.cost=b.cost∧h∈x.ae
theorem abU{l:List Way}{b w:Way}(hl:∀x∈l,fZ x.ae)(hw:fZ w.ae)(h:Ei l b):Ei (l++[w]) (mR b w):=by
 obtain⟨h1,⟨x0,tl,Cf⟩,h3,h4⟩:=h
 unfold mR
 by_cases q1:w.cost>b.cost
 ·rw[if_pos q1]
  refine⟨h1,⟨x0,by simp[tl],Cf⟩,λx hx=>?_,λh=>?_⟩
  ·rcases List.mem_append.1 hx with hx|hx
   ·exact h3 x hx
   ·rw[List.mem_singleton]at hx;subst hx;omega
  ·rw[h4]
   constructor
   ·rintro⟨x,hx,e1,e2⟩;exact⟨x,by simp[hx],e1,e2⟩
   ·rintro⟨x,hx,e1,e2⟩
    rcases List.mem_append.1 hx with hx|hx
    ·exact⟨x,hx,e1,e2⟩
    ·rw[List.mem_singleton]at hx;subst hx;omega
 rw[if_neg q1]
 by_cases q2:b.cost>w.cost
 ·rw[if_pos q2]
  refine⟨hw,⟨w,by simp,rfl⟩,λx hx=>?_,λh=>?_⟩
  ·rcases List.mem_append.1 hx with hx|hx
   ·have:=h3 x hx;omega
   ·rw[List.mem_singleton]at hx;subst hx;omega
  ·constructor
   ·intro hh;exact⟨w,by simp,rfl,hh⟩
   ·rintro⟨x,hx,e1,e2⟩
    rcases List.mem_append.1 hx with hx|hx
    ·have:=h3 x hx;omega
    ·rw[List.mem_singleton]at hx;subst hx;exact e2
 rw[if_neg q2]
 have he:w.cost=b.cost:=by omega
 refine⟨D1 _ _,⟨x0,by simp[tl],Cf⟩,λx hx=>?_,λh=>?_⟩
 ·rcases List.mem_append.1 hx with hx|hx
  ·exact h3 x hx
  ·rw[List.mem_singleton]at hx;subst hx;show b.cost<=_;omega
 ·show h∈qy b.ae w.ae↔_
  rw[LY]
  constructor
  ·rintro⟨_,hh|hh⟩
   ·obtain⟨x,hx,e1,e2⟩:=(h4 h).1 hh
    exact⟨x,by simp[hx],e1,e2⟩
   ·exact⟨w,by simp,he,hh⟩
  ·rintro⟨x,hx,e1,e2⟩
   rcases List.mem_append.1 hx with hx|hx
   ·exact⟨(hl x hx).2 h e2,.inl ((h4 h).2 ⟨x,hx,e1,e2⟩)⟩
   ·rw[List.mem_singleton]at hx;subst hx
    exact⟨hw.2 h e2,.inr e2⟩
theorem Gu{v:Int}:∀(n:Nat) (l:List Way),l.length=n->(∀x∈l,x.to=v∧fZ x.ae)->(l=[]∧jQ l=none)∨∃b,jQ l=some b∧b.to=v∧Ei l b:=by
 intro n
 induction n with
 |zero=>intro l hl _;exact .inl ⟨List.eq_nil_of_length_eq_zero hl,by rw[List.eq_nil_of_length_eq_zero hl];rfl⟩
 |succ n ih=>
  intro l hl hx
  right
  obtain⟨l',w,rfl⟩:∃l' w,l=l'++[w]:=⟨l.dropLast,l.getLast (by intro e;subst e;simp at hl),(List.dropLast_concat_getLast _).symm⟩
  have hw:=hx w (by simp)
  rw[abT]
  rcases ih l' (by simpa using hl) (λx h=>hx x (by simp[h]))with⟨rfl,e⟩|⟨b,e,hb,hB⟩
  ·rw[e]
   exact⟨w,rfl,hw.1,hw.2,⟨w,by simp,rfl⟩,by simp,λh=>by simp⟩
  ·rw[e]
   exact⟨mR b w,rfl,D_ hb hw.1,abU (λx h=>(hx x (by simp[h])).2) hw.2 hB⟩
theorem Md{v:Int}{l l':List Way}(h:∀x∈l,x.to=v∧fZ x.ae)(h':∀x,x∈l↔x∈l'):jQ l=jQ l':=by
 have lk:∀x∈l',x.to=v∧fZ x.ae:=λx hx=>h x ((h' x).2 hx)
 rcases Gu _ l rfl h with⟨e,e1⟩|⟨b,e1,hb,B⟩
 ·rcases Gu _ l' rfl lk with⟨e',e2⟩|⟨b',_,_,B'⟩
  ·rw[e1,e2]
  ·obtain⟨x,hx,_⟩:=B'.2.1
   have:=(h' x).2 hx
   rw[e]at this;cases this
 ·rcases Gu _ l' rfl lk with⟨e',e2⟩|⟨b',e2,jU,B'⟩
  ·obtain⟨x,hx,_⟩:=B.2.1
   have:=(h' x).1 hx
   rw[e']at this;cases this
  ·have hc:b.cost=b'.cost:=by
    obtain⟨x,hx,ex⟩:=B.2.1
    obtain⟨y,hy,ey⟩:=B'.2.1
    have h1:=B'.2.2.1 x ((h' x).1 hx)
    have h2:=B.2.2.1 y ((h' y).2 hy)
    omega
   have hh:b.ae=b'.ae:=wC B.1.1 B'.1.1 λh=>by
    rw[B.2.2.2,B'.2.2.2,hc]
    exact⟨λ⟨x,hx,q⟩=>⟨x,(h' x).1 hx,q⟩,λ⟨x,hx,q⟩=>⟨x,(h' x).2 hx,q⟩⟩
   rw[e1,e2]
   congr 1
   cases b;cases b'
   simp only at hc hh hb jU
   subst hc hh hb jU
   rfl
def pk(C:List Way):List Way:=rL.filterMap λv=>jQ (C.filter λw=>w.to==v)
theorem Me{C:List Way}(hC:∀x∈C,fZ x.ae){x:Way}:x∈pk C↔(1<=x.to∧x.to<=6)∧jQ (C.filter λw=>w.to==x.to)=some x:=by
 unfold pk
 rw[List.mem_filterMap]
 constructor
 ·rintro⟨v,hv,e⟩
  have hv:=fA.1 hv
  rcases Gu (v:=v) _ (C.filter λw=>w.to==v) rfl (λy hy=>by have:=List.mem_filter.1 hy;exact⟨by simpa using this.2,hC y this.1⟩)with⟨_,e1⟩|⟨b,e1,hb,_⟩
  ·rw[e1]at e;cases e
  ·rw[e1]at e;cases e
   subst hb
   exact⟨hv,e1⟩
 ·rintro⟨h1,h2⟩
  exact⟨x.to,fA.2 h1,h2⟩
theorem Mf(C:List Way):(pk C).length<=6:=by
 unfold pk
 exact List.length_filterMap_le _ _
theorem Ej{C:List Way}(hC:∀x∈C,fZ x.ae){x:Way}(hx:x∈pk C):fZ x.ae∧∃y∈C,y.to=x.to∧y.cost=x.cost:=by
 have hm:=(Me hC).1 hx
 rcases Gu (v:=x.to) _ (C.filter λw=>w.to==x.to) rfl (λy hy=>by have:=List.mem_filter.1 hy;exact⟨by simpa using this.2,hC y this.1⟩)with⟨_,e1⟩|⟨b,e1,hb,B⟩
 ·rw[e1]at hm;cases hm.2
 ·rw[e1]at hm;cases hm.2
  obtain⟨y,hy,e⟩:=B.2.1
  have:=List.mem_filter.1 hy
  exact⟨B.1,y,this.1,by simpa using this.2,e⟩
theorem Ek{s:List aI}(hs:iO s=true)(ar fr:Int):∀k W D,hX fr W D->∃D',hX fr (uM s ar fr k W D) D'
 |0,W,D,h=>⟨D,h⟩
 |k+1,W,D,h=>by
  unfold uM
  by_cases hb:eb W D=0
  ·rw[if_pos hb];exact⟨D,h⟩
  ·rw[if_neg hb];exact Ek hs ar fr k _ _ (h.step hs ar hb)
theorem fv{s:List aI}{ar fr:Int}:(eX s ar fr).Pairwise (λa b=>a.to<b.to)∧(eX s ar fr).length<=7∧∀w∈eX s ar fr,(1<=w.to∧w.to<=6)∧fZ w.ae∧0<=w.cost∧w.cost<=6000:=by
 unfold eX
 by_cases hc:iO s=true∧jg fr 1 6=true∧0<=og s ar fr
 ·rw[if_pos hc]
  obtain⟨D,hI⟩:=Ek hc.1 ar fr 6 (W0 fr) [] (hX.start (bU.1 hc.2.1))
  have hD:=hI.len
  have hl:=hI.ok.len
  have key:∀i,(hi:i<(uM s ar fr 6 (W0 fr) []).length)->(uM s ar fr 6 (W0 fr) [])[i].to≠0->(uM s ar fr 6 (W0 fr) [])[i].to=(i:Int)∧1<=i:=by
   intro i hi h0
   have:=(hI.ok.to (i:Int) (by omega) (by omega))
   rw[gC hi]at this
   have:=this.resolve_left h0
   exact⟨this,by omega⟩
  refine⟨?_,Nat.le_trans (abJ _) (by omega),λw hw=>?_⟩
  ·have hp:(uM s ar fr 6 (W0 fr) []).Pairwise λa b=>a.to≠0->b.to≠0->a.to<b.to:=by
    rw[List.pairwise_iff_getElem]
    intro i j hi hj sJ h1 h2
    rw[(key i hi h1).1,(key j hj h2).1];omega
   unfold AX
   have sm:=hp.filter (λw=>!(w.to==0))
   refine sm.imp_of_mem λ{a b} ha hb tB=>tB ?_ ?_
   ·have:=(List.mem_filter.1 ha).2;simpa using this
   ·have:=(List.mem_filter.1 hb).2;simpa using this
  ·obtain⟨h1,h2⟩:=List.mem_filter.1 hw
   have h2:w.to≠0:=by simpa using h2
   obtain⟨i,hi,rfl⟩:=List.mem_iff_getElem.1 h1
   obtain⟨h3,h4⟩:=key i hi h2
   have h5:=hI.ok.ae (i:Int) (by omega) (by omega)
   have h6:=hI.ok.cost (i:Int) (by omega) (by omega)
   rw[gC hi]at h5 h6
   exact⟨by omega,h5,by omega⟩
 ·rw[if_neg hc];simp
def oh(s:List aI)(dk:List Int)(fr:Int):List Way:=dk.flatMap λa=>eX s a fr
theorem Gv{s:List aI}{dk:List Int}{fr:Int}:∀w∈oh s dk fr,(1<=w.to∧w.to<=6)∧fZ w.ae∧0<=w.cost∧w.cost<=6000:=by
 intro w hw
 unfold oh at hw
 obtain⟨a,_,h⟩:=List.mem_flatMap.1 hw
 exact fv.2.2 w h
theorem OL{α β:Type}(f:α->List β)(l:List α)(c:List β):l.foldl (λc a=>c++f a) c=c++l.flatMap f:=by
 induction l generalizing c with
 |nil=>simp
 |cons a l ih=>rw[List.foldl_cons,ih];simp
theorem zI{α β:Type}(f:α->Option β)(l:List α):l.flatMap (λa=>(f a).toList)=l.filterMap f:=by
 induction l with
 |nil=>rfl
 |cons a l ih=>rw[List.flatMap_cons,List.filterMap_cons,ih];cases f a<;>rfl
def gf(s:List aI)(dk:List Int)(fr:Int):List Way:=pk (oh s dk fr)
def rO(l:List Way):List T:=[.l (l.map bM)]
theorem Gw{l:List (List Way)}{n:Int}(h:0<=n)(h':n<l.length):Prim.ev (.cell 1 0) [.l (l.map rO),ii n]=some (.l ((gt l n).map bM)):=gN h (dq h h') rfl rfl
theorem Mg(x:List Way):Prim.ev (.lit 1 []) [.l (x.map bM)]=some (.l ([x].map rO)):=n4 (by decide) rfl rfl
theorem Mh{l:List (List Way)}{x:List Way}(h:l.length<4294967295):Prim.ev (.app false 1) [.l (l.map rO),.l ([x].map rO)]=some (.l ((l++[x]).map rO)):=pd (w:=1) (λ_=>rfl) (.inl rfl) (by unfold qD;simp;omega)
def cE(l:List Way)(v:Int):Option Way:=if dQ l v<0 then none else some (gt l (dQ l v))
theorem Mi(l:List Way)(v:Int):dQ l v<l.length:=tS _ _
theorem sN{l:List Way}{v:Int}{w:Way}(h:cE l v=some w):w∈l∧w.to=v:=by
 unfold cE at h
 split at h
 ·cases h
 ·rename_i hf
  cases h
  have:=zi (λw:Way=>w.to==v) l (by unfold dQ at hf;omega)
  exact⟨h_ (by omega) (Mi _ _),by simpa[dQ]using this⟩
theorem abV{l:List Way}{v:Int}(h:cE l v=none):∀w∈l,w.to≠v:=by
 unfold cE at h
 split at h
 ·rename_i hf
  intro w hw
  have:=(AH _ _).1 hf w hw
  simpa using this
 ·cases h
theorem abW{l:List Way}(h:l.Pairwise λa b=>a.to<b.to){x y:Way}(hx:x∈l)(hy:y∈l)(e:x.to=y.to):x=y:=by
 obtain⟨i,hi,rfl⟩:=List.mem_iff_getElem.1 hx
 obtain⟨j,hj,rfl⟩:=List.mem_iff_getElem.1 hy
 rw[List.pairwise_iff_getElem]at h
 rcases Nat.lt_trichotomy i j with h1|h1|h1
 ·have:=h i j hi hj h1;omega
 ·subst h1;rfl
 ·have:=h j i hj hi h1;omega
theorem abX{l:List Way}(h:l.Pairwise λa b=>a.to<b.to){v:Int}{w:Way}:cE l v=some w↔w∈l∧w.to=v:=by
 refine⟨sN,λ⟨h1,h2⟩=>?_⟩
 cases e:cE l v with
 |none=>exact absurd h2 (abV e w h1)
 |some w'=>
  have:=sN e
  rw[abW h this.1 h1 (by omega)]
def El(o:Option Way)(i:Int):List T:=match o with|none=>[bb false,ii i,ii 0,ii 0,.l []]|some b=>[bb true,ii i,ii b.to,ii b.cost,.l (b.ae.map aA)]
theorem ux_(s:List aI)(dk:List Int)(fr:Int)(h:s.length<=1048576)(hn:dj s)(ha:dk.length<=1048576):uA [.l (s.map bh),.l (dk.map aA),ii fr]=some [.l ((gf s dk fr).map bM)]:=by
 have hW:=λa=>fv (s:=s) (ar:=a) (fr:=fr)
 rw[ZM];simp(disch:=omega) only[↓pq,↓pj,ps,pz,↓reduceIte,ah,ai,aj,ak,aq,au,av,aw,ax,uE,uF,uG,ZK]
 refine jz dk (λj C=>[.l (C.map rO),ii j]) (λC a=>C++[eX s a fr]) (λ_=>some [T.l ((gf s dk fr).map bM)]) [] (λj C=>C=(dk.take j).map (λa=>eX s a fr)) rfl (et ha) rfl ?_ ?_
 ·intro j C hj hC
  have hl:C.length<=j:=by rw[hC];simp;omega
  refine⟨by rw[List.take_add_one,hC,List.map_append,List.getElem?_eq_getElem (by omega),gC (by omega)];rfl,λq=>?_⟩
  simp(disch:=omega) only[↓pq,↓pj,ps,pz,↓reduceIte,ah,ai,aj,ak,aq,au,av,aw,ax,uE,uF,uG,hj,Eg _ _ _ h hn,Mg,Mh]
 ·intro C q hC
  have hC:C=dk.map (λa=>eX s a fr):=by rw[hC,List.take_length]
  have hCl:C.length=dk.length:=by rw[hC,List.length_map]
  have Em:∀j:Nat,(j:Int)<dk.length->gt C (j:Int)=eX s (gt dk j) fr:=by
   intro j hj
   rw[gC (by omega),gC (by omega)]
   simp only[hC,List.getElem_map]
  simp(disch:=omega) only[↓pq,↓pj,ps,pz,↓reduceIte,ah,ai,aj,ak,aq,au,av,aw,ax,uE,uF,uG,]
  refine(qP 6 (λi c=>[.l (c.map bM),ii (i+1)]) (λc i=>c++(jQ (dk.filterMap λa=>cE (eX s a fr) ((i:Int)+1))).toList) (λc=>some [T.l (c.map bM)]) [] (λi c=>c.length<=i) rfl (et (by omega)) (by simp) ?_ ?_).trans ?_
  ·intro i c hi hc
   refine⟨by cases jQ (dk.filterMap λa=>cE (eX s a fr) ((i:Int)+1))<;>simp<;>omega,λq'=>?_⟩
   have bR:(i:Int)+1<=6:=by omega
   simp(disch:=omega) only[↓pq,↓pj,ps,pz,↓reduceIte,ah,ai,aj,ak,aq,au,av,aw,ax,uE,uF,uG,bR]
   have hfm:∀(l:List Int) (o:Option Way),l.foldl (λo a=>match cE (eX s a fr) ((i:Int)+1)with|none=>o|some w=>gU o w) o=(l.filterMap λa=>cE (eX s a fr) ((i:Int)+1)).foldl gU o:=by
    intro l
    induction l with
    |nil=>intro o;rfl
    |cons a l ih=>
     intro o
     rw[List.foldl_cons,List.filterMap_cons]
     cases cE (eX s a fr) ((i:Int)+1)with
     |none=>exact ih o
     |some w=>exact ih _
   refine(jz dk (λj o=>El o j) (λo a=>match cE (eX s a fr) ((i:Int)+1)with|none=>o|some w=>gU o w) (λo=>q' [T.l ((c++o.toList).map bM),ii ((i:Int)+1+1)]) none (λ_ o=>∀b,o=some b->fZ b.ae) rfl (et ha) (by simp) ?_ ?_).trans (by rw[hfm];rfl)
   ·intro j o hj ho
    obtain⟨w1,w2,w3⟩:=hW (gt dk j)
    have hlC:(j:Int)<C.length:=by omega
    have hT:=Gp (eX s (gt dk j) fr) ((i:Int)+1) (by omega) (λw hw=>by have:=lM (w3 w hw).2.1;omega)
    constructor
    ·intro b hb
     cases hw:cE (eX s (gt dk j) fr) ((i:Int)+1)with
     |none=>rw[hw]at hb;exact ho b hb
     |some w=>
      rw[hw]at hb
      have hh:=(w3 w (sN hw).1).2.1
      cases o with
      |none=>simp only[gU]at hb;cases hb;exact hh
      |some b0=>simp only[gU]at hb;cases hb;exact zF (ho b0 rfl) hh
    ·intro q2
     unfold cE
     by_cases hp:dQ (eX s (gt dk j) fr) ((i:Int)+1)<0
     ·rw[if_pos hp]at hT
      cases o with
      |none=>simp only[El];simp(disch:=omega) only[↓pq,↓pj,ps,pz,↓reduceIte,ah,ai,aj,ak,aq,au,av,aw,ax,uE,uF,uG,hj,Gw,Em j hj,hT,hp,cA]
      |some b=>simp only[El];simp(disch:=omega) only[↓pq,↓pj,ps,pz,↓reduceIte,ah,ai,aj,ak,aq,au,av,aw,ax,uE,uF,uG,hj,Gw,Em j hj,hT,hp,cA]
     ·rw[if_neg hp]at hT
      have hm:=w3 _ (h_ (l:=eX s (gt dk j) fr) (n:=dQ (eX s (gt dk j) fr) ((i:Int)+1)) (by omega) (Mi _ _))
      have lR:=lM hm.2.1
      simp only[bM,List.cons_append,List.nil_append]at hT
      cases o with
      |none=>simp only[El];simp(disch:=omega) only[↓pq,↓pj,ps,pz,↓reduceIte,ah,ai,aj,ak,aq,au,av,aw,ax,uE,uF,uG,hj,Gw,Em j hj,hT,hp,cA];rfl
      |some b=>
       have oZ:=lM (ho b rfl)
       simp only[El]
       simp(disch:=omega) only[↓pq,↓pj,ps,pz,↓reduceIte,ah,ai,aj,ak,aq,au,av,aw,ax,uE,uF,uG,hj,Gw,Em j hj,hT,hp,cA,L_ _ _ _ _ _ _ (show b.ae.length<=1048576 by omega) (show(gt (eX s (gt dk j) fr) (dQ (eX s (gt dk j) fr) ((i:Int)+1))).ae.length<=1048576 by omega),bM]
       rfl
   ·intro o q2 ho
    cases o with
    |none=>simp only[El];simp(disch:=omega) only[↓pq,↓pj,ps,pz,↓reduceIte,ah,ai,aj,ak,aq,au,av,aw,ax,uE,uF,uG,cA];simp
    |some b=>simp only[El];simp(disch:=omega) only[↓pq,↓pj,ps,pz,↓reduceIte,ah,ai,aj,ak,aq,au,av,aw,ax,uE,uF,uG,];simp
  ·intro c q' hc
   simp(disch:=omega) only[↓pq,↓pj,ps,pz,↓reduceIte,ah,ai,aj,ak,aq,au,av,aw,ax,uE,uF,uG,]
  ·rw[OL (λi:Nat=>(jQ (dk.filterMap λa=>cE (eX s a fr) ((i:Int)+1))).toList),List.nil_append]
   congr 3
   unfold gf pk
   rw[wH,List.filterMap_map,zI]
   refine congrArg (λf=>List.map bM (List.filterMap f (List.range 6))) (funext λi=>?_)
   show _=jQ _
   refine Md (v:=(i:Int)+1) (λx hx=>?_) λx=>?_
   ·obtain⟨a,_,hx⟩:=List.mem_filterMap.1 hx
    have:=sN hx
    exact⟨this.2,((hW a).2.2 x this.1).2.1⟩
   ·rw[List.mem_filterMap,List.mem_filter]
    unfold oh
    rw[List.mem_flatMap]
    constructor
    ·rintro⟨a,D0,hx⟩
     have:=sN hx
     exact⟨⟨a,D0,this.1⟩,by simpa using this.2⟩
    ·rintro⟨⟨a,D0,hx⟩,e⟩
     exact⟨a,D0,(abX (hW a).1).2 ⟨hx,by simpa using e⟩⟩
theorem abZ{s:List aI}(hs:iO s=true){x:aI}(hx:x∈s)(h:x.kind=2):(1<=x.key∧x.key<=6)∧0<=x.cost∧x.cost<=60000:=by
 have:=kP_ hs hx
 unfold n6 at this
 rw[if_neg (by omega),if_pos h]at this
 simp only[bB,bU]at this
 exact⟨this.2.1.1.1.2,this.2.1.2⟩
theorem Mk{s:List aI}(hs:iO s=true){x:aI}(hx:x∈s):0<=x.cost∧x.cost<=60000:=by
 have:=kP_ hs hx
 unfold n6 at this
 grind[bU]
theorem En{s:List aI}{a fr v:Int}{w:Way}(h:cE (eX s a fr) v=some w):w.to=v∧fZ w.ae∧0<=w.cost∧w.cost<=6000∧iO s=true:=by
 have h1:=sN h
 have h2:=fv.2.2 w h1.1
 refine⟨h1.2,h2.2.1,h2.2.2.1,h2.2.2.2,?_⟩
 cases e:iO s with
 |true=>rfl
 |false=>
  have:eX s a fr=[]:=by unfold eX;rw[if_neg (by rw[e];simp)]
  rw[this]at h1;cases h1.1
def rP(s:List aI)(A:List Int)(z:Bool)(fr:Int)(x:aI):Option Way:=
 if x.kind=2∧x.cost<60000∧x.owner≠fr∧A.contains x.aC=true∧(z=true->x.aC=0)∧dQ (gf s A fr) x.key<0 then
  match cE (eX s x.aC fr) x.owner with
  |none=>none
  |some w=>if x.cost+w.cost<60000 then some ⟨x.key,x.cost+w.cost,w.ae⟩else none
 else none
theorem Gx{s:List aI}{A:List Int}{z:Bool}{fr:Int}{x:aI}{w:Way}(h:rP s A z fr x=some w):(x.kind=2∧x.cost<60000∧x.owner≠fr∧A.contains x.aC=true∧(z=true->x.aC=0)∧dQ (gf s A fr) x.key<0)∧∃y,cE (eX s x.aC fr) x.owner=some y∧x.cost+y.cost<60000∧w=⟨x.key,x.cost+y.cost,y.ae⟩:=by
 unfold rP at h
 split at h
 ·rename_i hc
  refine⟨hc,?_⟩
  split at h
  ·cases h
  ·rename_i y hy
   split at h
   ·rename_i hl;cases h;exact⟨y,hy,hl,rfl⟩
   ·cases h
 ·cases h
theorem ab0{s:List aI}{A:List Int}{z:Bool}{fr:Int}{x:aI}(hx:x∈s){w:Way}(h:rP s A z fr x=some w):(1<=w.to∧w.to<=6)∧fZ w.ae∧0<=w.cost∧w.cost<60000:=by
 obtain⟨h1,y,h2,h3,rfl⟩:=Gx h
 have h4:=En h2
 have h5:=abZ h4.2.2.2.2 hx h1.1
 exact⟨h5.1,h4.2.1,by show 0<=x.cost+y.cost;omega,h3⟩
def zJ(s:List aI)(A:List Int)(z:Bool)(fr:Int):List Way:=s.filterMap (rP s A z fr)
theorem Ml{s:List aI}{A:List Int}{z:Bool}{fr:Int}:∀w∈zJ s A z fr,(1<=w.to∧w.to<=6)∧fZ w.ae∧0<=w.cost∧w.cost<60000:=by
 intro w hw
 obtain⟨x,hx,h⟩:=List.mem_filterMap.1 hw
 exact ab0 hx h
def j8(s:List aI)(A:List Int)(z:Bool)(fr:Int):List Way:=pk (zJ s A z fr)
theorem Mm{s:List aI}{A:List Int}{fr:Int}:∀w∈gf s A fr,w.ae.length<=1048576:=by
 intro w hw
 have:=lM (Ej (λx hx=>(Gv x hx).2.1) hw).1
 omega
theorem Gy{s:List aI}{A:List Int}{fr:Int}:(gf s A fr).length<=6:=Mf _
theorem ab1{s:List aI}{a fr:Int}:∀w∈eX s a fr,w.ae.length<=1048576:=by
 intro w hw
 have:=lM (fv.2.2 w hw).2.1
 omega
theorem ab2{s:List aI}{a fr:Int}:(eX s a fr).length<=7:=fv.2.1
def wz:Way:=⟨0,0,[]⟩
def oW(o:Option Way):Way:=o.getD wz
theorem zK(w:Way):oW (some w)=w:=rfl
def jh(W:List Way)(aC fr to:Int)(x:aI):Option Way:=
 if x.kind=2∧x.aC=aC∧x.key=to∧x.owner≠fr∧x.cost<60000 then
  match cE W x.owner with
  |none=>none
  |some w=>if w.cost+x.cost<60000 then some ⟨to,w.cost+x.cost,w.ae⟩else none
 else none
theorem Eo{W:List Way}{aC fr to:Int}{x:aI}(hW:∀w∈W,fZ w.ae){w:Way}(h:jh W aC fr to x=some w):w.to=to∧fZ w.ae:=by
 unfold jh at h
 split at h
 ·split at h
  ·cases h
  ·rename_i y hy
   split at h
   ·cases h;exact⟨rfl,hW y (sN hy).1⟩
   ·cases h
 ·cases h
def rQ(o:Option Way)(l:List Way):Option Way:=l.foldl gU o
theorem Ep{l:List Way}{o:Option Way}(ho:∀b,o=some b->fZ b.ae)(hl:∀w∈l,fZ w.ae):∀b,rQ o l=some b->fZ b.ae:=by
 induction l generalizing o with
 |nil=>exact ho
 |cons a l ih=>
  refine ih (o:=gU o a) (λb hb=>?_) λw hw=>hl w (.tail _ hw)
  cases o with
  |none=>simp only[gU]at hb;cases hb;exact hl _ (.head _)
  |some b0=>simp only[gU]at hb;cases hb;exact zF (ho b0 rfl) (hl _ (.head _))
theorem ab3{α:Type}(f:α->Option Way)(l:List α)(o:Option Way):l.foldl (λo x=>match f x with|none=>o|some w=>gU o w) o=rQ o (l.filterMap f):=by
 induction l generalizing o with
 |nil=>rfl
 |cons a l ih=>
  rw[List.foldl_cons,List.filterMap_cons]
  cases f a with
  |none=>exact ih o
  |some w=>exact ih _
theorem ab4(s:List aI)(W:List Way)(aC fr to:Int)(o:Option Way)(h:s.length<=1048576)(hn:dj s)(hs:iO s=true)(hWl:W.length<=7)(hW:∀w∈W,fZ w.ae∧0<=w.cost∧w.cost<=6000)(ho:∀b,o=some b->fZ b.ae):
  FO [.l (s.map bh),.l (W.map bM),ii aC,ii fr,ii to,ii (oW o).to,ii (oW o).cost,.l ((oW o).ae.map aA),bb o.isSome]=(λo':Option Way=>some [ii (oW o').to,ii (oW o').cost,.l ((oW o').ae.map aA),bb o'.isSome]) (rQ o (s.filterMap (jh W aC fr to))):=by
 rw[ZP];simp(disch:=omega) only[↓pq,↓pj,ps,pz,↓reduceIte,ah,ai,aj,ak,aq,au,av,aw,ax,uH,ZN]
 refine(jz s (λj o=>[bb o.isSome,ii j,ii (oW o).to,ii (oW o).cost,.l ((oW o).ae.map aA)]) (λo x=>match jh W aC fr to x with|none=>o|some w=>gU o w) (λo':Option Way=>some [ii (oW o').to,ii (oW o').cost,.l ((oW o').ae.map aA),bb o'.isSome]) o (λ_ o=>∀b,o=some b->fZ b.ae) rfl (et h) ho ?_ ?_).trans (by rw[ab3])
 ·intro j o hj ho
  have hm:=h_ (l:=s) (n:=(j:Int)) (by omega) hj
  have hc:=Mk hs hm
  constructor
  ·intro b hb
   cases e:jh W aC fr to (gt s j)with
   |none=>rw[e]at hb;exact ho b hb
   |some w=>
    rw[e]at hb
    exact Ep (l:=[w]) ho (by intro y hy;rw[List.mem_singleton]at hy;subst hy;exact(Eo (λw hw=>(hW w hw).1) e).2) b hb
  intro q
  have hT:=Gp W (gt s j).owner (by omega) (λw hw=>by have:=lM (hW w hw).1;omega)
  by_cases k1:(gt s j).kind=2∧(gt s j).aC=aC∧(gt s j).key=to∧(gt s j).owner≠fr∧(gt s j).cost<60000
  rotate_left
  ·have hr:jh W aC fr to (gt s j)=none:=by unfold jh;rw[if_neg k1]
   rw[hr]
   by_cases a1:(gt s j).kind=2
   ·by_cases a2:(gt s j).aC=aC
    ·by_cases a3:(gt s j).key=to
     ·by_cases a4:(gt s j).owner=fr
      ·simp(disch:=omega) only[↓pq,↓pj,ps,pz,↓reduceIte,ah,ai,aj,ak,aq,au,av,aw,ax,uH,hj,a1,a2,a3,a4]
      ·have a5:(gt s j).cost>=60000:=by
        rcases Int.lt_or_le (gt s j).cost 60000 with h|h
        ·exact absurd ⟨a1,a2,a3,a4,h⟩ k1
        ·exact h
       simp(disch:=omega) only[↓pq,↓pj,ps,pz,↓reduceIte,ah,ai,aj,ak,aq,au,av,aw,ax,uH,hj,a1,a2,a3,a4,a5]
     ·simp(disch:=omega) only[↓pq,↓pj,ps,pz,↓reduceIte,ah,ai,aj,ak,aq,au,av,aw,ax,uH,hj,a1,a2,a3]
    ·simp(disch:=omega) only[↓pq,↓pj,ps,pz,↓reduceIte,ah,ai,aj,ak,aq,au,av,aw,ax,uH,hj,a1,a2]
   ·simp(disch:=omega) only[↓pq,↓pj,ps,pz,↓reduceIte,ah,ai,aj,ak,aq,au,av,aw,ax,uH,hj,a1]
  obtain⟨a1,a2,a3,a4,a5⟩:=k1
  have OM:¬(gt s j).cost>=60000:=by omega
  by_cases hp:dQ W (gt s j).owner<0
  ·have hr:jh W aC fr to (gt s j)=none:=by unfold jh cE;rw[if_pos ⟨a1,a2,a3,a4,a5⟩,if_pos hp]
   rw[hr]
   rw[if_pos hp]at hT
   simp(disch:=omega) only[↓pq,↓pj,ps,pz,↓reduceIte,ah,ai,aj,ak,aq,au,av,aw,ax,uH,hj,a1,a2,a3,a4,OM,hT,cA]
  rw[if_neg hp]at hT
  have hO:cE W (gt s j).owner=some (gt W (dQ W (gt s j).owner)):=by unfold cE;rw[if_neg hp]
  generalize gt W (dQ W (gt s j).owner)=w at hO hT
  have hw:=hW w (sN hO).1
  have lR:=lM hw.1
  simp only[bM,List.cons_append,List.nil_append]at hT
  by_cases hq:w.cost+(gt s j).cost<60000
  ·have hr:jh W aC fr to (gt s j)=some ⟨to,w.cost+(gt s j).cost,w.ae⟩:=by unfold jh;rw[if_pos ⟨a1,a2,a3,a4,a5⟩,hO];simp only[];rw[if_pos hq]
   rw[hr]
   cases o with
   |none=>simp(disch:=omega) only[↓pq,↓pj,ps,pz,↓reduceIte,ah,ai,aj,ak,aq,au,av,aw,ax,uH,hj,a1,a2,a3,a4,OM,hT,show¬w.cost+(gt s j).cost>=60000 by omega,Option.isSome_none,cA];rfl
   |some b=>
    have oZ:=lM (ho b rfl)
    simp(disch:=omega) only[↓pq,↓pj,ps,pz,↓reduceIte,ah,ai,aj,ak,aq,au,av,aw,ax,uH,hj,a1,a2,a3,a4,OM,hT,show¬w.cost+(gt s j).cost>=60000 by omega,Option.isSome_some,zK,L_ _ _ _ _ _ _ (show b.ae.length<=1048576 by omega) (show w.ae.length<=1048576 by omega),bM];rfl
  ·have hr:jh W aC fr to (gt s j)=none:=by unfold jh;rw[if_pos ⟨a1,a2,a3,a4,a5⟩,hO];simp only[];rw[if_neg hq]
   rw[hr]
   simp(disch:=omega) only[↓pq,↓pj,ps,pz,↓reduceIte,ah,ai,aj,ak,aq,au,av,aw,ax,uH,hj,a1,a2,a3,a4,OM,hT,show w.cost+(gt s j).cost>=60000 by omega]
 ·intro o q ho
  simp(disch:=omega) only[↓pq,↓pj,ps,pz,↓reduceIte,ah,ai,aj,ak,aq,au,av,aw,ax,uH,]
def rR(s:List aI)(A:List Int)(z:Bool)(fr to:Int):List Way:=(A.filter λa=>!z||a==0).flatMap λa=>s.filterMap (jh (eX s a fr) a fr to)
theorem ab5{α:Type}(p:α->Bool)(f:α->List Way)(l:List α)(o:Option Way):l.foldl (λo a=>if p a=true then rQ o (f a)else o) o=rQ o ((l.filter p).flatMap f):=by
 induction l generalizing o with
 |nil=>rfl
 |cons a l ih=>
  rw[List.foldl_cons,ih,List.filter_cons]
  cases p a with
  |false=>rfl
  |true=>simp[rQ]
theorem ab6{s:List aI}{A:List Int}{z:Bool}{fr to:Int}:∀w∈rR s A z fr to,w.to=to∧fZ w.ae:=by
 intro w hw
 unfold rR at hw
 obtain⟨a,_,h⟩:=List.mem_flatMap.1 hw
 obtain⟨x,hx,h⟩:=List.mem_filterMap.1 h
 exact Eo (λy hy=>(fv.2.2 y hy).2.1) h
theorem ab7{s:List aI}{A:List Int}{z:Bool}{fr to:Int}(ht:dQ (gf s A fr) to<0)(w:Way):w∈rR s A z fr to↔w∈(zJ s A z fr).filter λw=>w.to==to:=by
 unfold rR zJ
 rw[List.mem_flatMap,List.mem_filter,List.mem_filterMap]
 constructor
 ·rintro⟨a,ha,h⟩
  obtain⟨x,hx,h⟩:=List.mem_filterMap.1 h
  have ha:=List.mem_filter.1 ha
  unfold jh at h
  split at h
  ·rename_i hc
   obtain⟨c1,c2,c3,c4,c5⟩:=hc
   subst c2 c3
   split at h
   ·cases h
   ·rename_i y hy
    split at h
    ·rename_i hl
     cases h
     refine⟨⟨x,hx,?_⟩,by simp⟩
     unfold rP
     rw[if_pos ⟨c1,c5,c4,List.contains_iff_mem.2 ha.1,λhz=>by have:=ha.2;rw[hz]at this;simpa using this,ht⟩,hy]
     simp only[]
     rw[if_pos (by omega),Int.add_comm]
    ·cases h
  ·cases h
 ·rintro⟨⟨x,hx,h⟩,nc⟩
  obtain⟨⟨c1,c2,c3,c4,c5,c6⟩,y,hy,hl,rfl⟩:=Gx h
  have nc:x.key=to:=by simpa using nc
  refine⟨x.aC,List.mem_filter.2 ⟨List.contains_iff_mem.1 c4,?_⟩,List.mem_filterMap.2 ⟨x,hx,?_⟩⟩
  ·cases z with
   |false=>rfl
   |true=>simp[c5 rfl]
  ·unfold jh
   rw[if_pos ⟨c1,rfl,nc,c3,c2⟩,hy]
   simp only[]
   rw[if_pos (by omega),Int.add_comm,nc]
theorem ab8{s:List aI}{A:List Int}{z:Bool}{fr to:Int}(ht:¬dQ (gf s A fr) to<0):(zJ s A z fr).filter (λw=>w.to==to)=[]:=by
 rw[List.filter_eq_nil_iff]
 intro w hw
 obtain⟨x,hx,h⟩:=List.mem_filterMap.1 hw
 obtain⟨hc,y,_,_,rfl⟩:=Gx h
 intro e
 have e:x.key=to:=by simpa using e
 subst e
 exact ht hc.2.2.2.2.2
theorem jJ_(s:List aI)(A:List Int)(z:Bool)(fr:Int)(h:s.length<=1048576)(hn:dj s)(ha:A.length<=1048576):zq [.l (s.map bh),.l (A.map aA),bb z,ii fr]=some [.l ((j8 s A z fr).map bM)]:=by
 have hW:=λa=>fv (s:=s) (ar:=a) (fr:=fr)
 rw[ZS];simp(disch:=omega) only[↓pq,↓pj,ps,pz,↓reduceIte,ah,ai,aj,ak,aq,au,av,aw,ax,sB,sC,sD,ZQ,ux_ _ _ _ h hn ha,OG _ h hn]
 cases hs:iO s with
 |false=>
  have:zJ s A z fr=[]:=by
   unfold zJ
   rw[List.filterMap_eq_nil_iff]
   intro x hx
   cases e:rP s A z fr x with
   |none=>rfl
   |some w=>
    obtain⟨_,y,hy,_⟩:=Gx e
    have:=(En hy).2.2.2.2
    rw[hs]at this;cases this
  simp(disch:=omega) only[↓pq,↓pj,ps,pz,↓reduceIte,ah,ai,aj,ak,aq,au,av,aw,ax,sB,sC,sD,cA]
  unfold j8
  rw[this]
  rfl
 |true=>
 simp(disch:=omega) only[↓pq,↓pj,ps,pz,↓reduceIte,ah,ai,aj,ak,aq,au,av,aw,ax,sB,sC,sD,]
 refine jz A (λj C=>[.l (C.map rO),ii j]) (λC a=>C++[eX s a fr]) (λ_=>some [T.l ((j8 s A z fr).map bM)]) [] (λj C=>C=(A.take j).map (λa=>eX s a fr)) rfl (et ha) rfl ?_ ?_
 ·intro j C hj hC
  have hl:C.length<=j:=by rw[hC];simp;omega
  refine⟨by rw[List.take_add_one,hC,List.map_append,List.getElem?_eq_getElem (by omega),gC (by omega)];rfl,λq=>?_⟩
  simp(disch:=omega) only[↓pq,↓pj,ps,pz,↓reduceIte,ah,ai,aj,ak,aq,au,av,aw,ax,sB,sC,sD,hj,Eg _ _ _ h hn,Mg,Mh]
 ·intro C q hC
  have hC:C=A.map (λa=>eX s a fr):=by rw[hC,List.take_length]
  have hCl:C.length=A.length:=by rw[hC,List.length_map]
  have Em:∀j:Nat,(j:Int)<A.length->gt C (j:Int)=eX s (gt A j) fr:=by
   intro j hj
   rw[gC (by omega),gC (by omega)]
   simp only[hC,List.getElem_map]
  simp(disch:=omega) only[↓pq,↓pj,ps,pz,↓reduceIte,ah,ai,aj,ak,aq,au,av,aw,ax,sB,sC,sD,]
  refine(qP 6 (λi c=>[.l (c.map bM),ii (i+1)]) (λc i=>c++(if dQ (gf s A fr) ((i:Int)+1)<0 then jQ (rR s A z fr ((i:Int)+1))else none).toList) (λc=>some [T.l (c.map bM)]) [] (λi c=>c.length<=i) rfl (et (by omega)) (by simp) ?_ ?_).trans ?_
  ·intro i c hi hc
   refine⟨by cases(if dQ (gf s A fr) ((i:Int)+1)<0 then jQ (rR s A z fr ((i:Int)+1))else none)<;>simp<;>omega,λq'=>?_⟩
   have bR:(i:Int)+1<=6:=by omega
   have hT:=Gp (gf s A fr) ((i:Int)+1) (by have:=Gy (s:=s) (A:=A) (fr:=fr);omega) Mm
   by_cases hp:dQ (gf s A fr) ((i:Int)+1)<0
   rotate_left
   ·rw[if_neg hp]at hT⊢
    simp only[bM,List.cons_append,List.nil_append]at hT
    simp(disch:=omega) only[↓pq,↓pj,ps,pz,↓reduceIte,ah,ai,aj,ak,aq,au,av,aw,ax,sB,sC,sD,bR,hT,Option.toList_none,List.append_nil]
   rw[if_pos hp]at hT⊢
   simp(disch:=omega) only[↓pq,↓pj,ps,pz,↓reduceIte,ah,ai,aj,ak,aq,au,av,aw,ax,sB,sC,sD,bR,hT,cA]
   refine(jz A (λj o=>[bb o.isSome,ii j,ii (oW o).to,ii (oW o).cost,.l ((oW o).ae.map aA)]) (λo a=>if(!z||a==0)=true then rQ o (s.filterMap (jh (eX s a fr) a fr ((i:Int)+1)))else o) (λo=>q' [T.l ((c++o.toList).map bM),ii ((i:Int)+1+1)]) none (λ_ o=>∀b,o=some b->fZ b.ae) rfl (et ha) (by simp) ?_ ?_).trans (by rw[ab5];rfl)
   ·intro j o hj ho
    obtain⟨w1,w2,w3⟩:=hW (gt A j)
    have hlC:(j:Int)<C.length:=by omega
    have hB:=ab4 s (eX s (gt A j) fr) (gt A j) fr ((i:Int)+1) o h hn hs w2 (λw hw=>(w3 w hw).2) ho
    have dL:=Ep (o:=o) (l:=s.filterMap (jh (eX s (gt A j) fr) (gt A j) fr ((i:Int)+1))) ho (λw hw=>by
     obtain⟨x,_,e⟩:=List.mem_filterMap.1 hw
     exact(Eo (λw hw=>(w3 w hw).2.1) e).2)
    cases z with
    |false=>
     refine⟨dL,λq2=>?_⟩
     simp(disch:=omega) only[↓pq,↓pj,ps,pz,↓reduceIte,ah,ai,aj,ak,aq,au,av,aw,ax,sB,sC,sD,hj,Gw,Em j hj,hB,cA,Bool.not_false,Bool.true_or]
    |true=>
     by_cases h0:gt A j=0
     ·rw[h0]at hB dL
      refine⟨by rw[h0];exact dL,λq2=>?_⟩
      have Ac:=Em j hj
      rw[h0]at Ac
      simp(disch:=omega) only[↓pq,↓pj,ps,pz,↓reduceIte,ah,ai,aj,ak,aq,au,av,aw,ax,sB,sC,sD,hj,Gw,Ac,h0,hB,beq_self_eq_true,Bool.or_true]
     ·have cP:(gt A j==0)=false:=by simpa using h0
      rw[cP]
      refine⟨ho,λq2=>?_⟩
      simp(disch:=omega) only[↓pq,↓pj,ps,pz,↓reduceIte,ah,ai,aj,ak,aq,au,av,aw,ax,sB,sC,sD,hj,h0,Bool.not_true,Bool.or_false,cA]
   ·intro o q2 ho
    cases o with
    |none=>simp(disch:=omega) only[↓pq,↓pj,ps,pz,↓reduceIte,ah,ai,aj,ak,aq,au,av,aw,ax,sB,sC,sD,cA,Option.isSome_none];simp
    |some b=>simp(disch:=omega) only[↓pq,↓pj,ps,pz,↓reduceIte,ah,ai,aj,ak,aq,au,av,aw,ax,sB,sC,sD,Option.isSome_some,zK];simp
  ·intro c q' hc
   simp(disch:=omega) only[↓pq,↓pj,ps,pz,↓reduceIte,ah,ai,aj,ak,aq,au,av,aw,ax,sB,sC,sD,]
  ·rw[OL (λi:Nat=>(if dQ (gf s A fr) ((i:Int)+1)<0 then jQ (rR s A z fr ((i:Int)+1))else none).toList),List.nil_append]
   congr 3
   unfold j8 pk
   rw[wH,List.filterMap_map,zI]
   refine congrArg (λf=>List.map bM (List.filterMap f (List.range 6))) (funext λi=>?_)
   show _=jQ _
   by_cases hp:dQ (gf s A fr) ((i:Int)+1)<0
   ·rw[if_pos hp]
    exact Md (v:=(i:Int)+1) ab6 (ab7 hp)
   ·rw[if_neg hp,ab8 hp]
    rfl
theorem ON(l:List Way)(v:Int):cE l v=l.find? λw=>w.to==v:=by
 cases h:l.find? (λw=>w.to==v)with
 |none=>
  cases h':cE l v with
  |none=>rfl
  |some w=>
   have:=sN h'
   have h2:=List.find?_eq_none.1 h w this.1
   simp[this.2]at h2
 |some w=>
  unfold cE dQ
  have h0:0<=eg (λw:Way=>w.to==v) l:=by
   rcases Int.lt_or_le (eg (λw:Way=>w.to==v) l) 0 with h1|h1
   ·have:=(AH _ _).1 h1 w (List.mem_of_find?_eq_some h)
    have h2:=List.find?_some h
    rw[this]at h2;cases h2
   ·exact h1
  rw[if_neg (by omega)]
  unfold eg at h0⊢
  cases h':l.findIdx? (λw:Way=>w.to==v)with
  |none=>rw[h']at h0;exact absurd h0 (by decide)
  |some i=>
   obtain⟨h1,h2,h3⟩:=List.findIdx?_eq_some_iff_getElem.1 h'
   show some (gt l (i:Int))=some w
   rw[gC h1]
   obtain⟨e,as',bs,e1,e2⟩:=List.find?_eq_some_iff_append.1 h
   subst e1
   congr 1
   rcases Nat.lt_trichotomy i as'.length with h4|h4|h4
   ·have h5:=e2 as'[i] (List.getElem_mem h4)
    rw[List.getElem_append_left h4]at h2
    rw[h2]at h5;cases h5
   ·subst h4;simp
   ·have h5:=h3 as'.length h4
    simp at h5 e
    exact absurd e h5
theorem Mo(a b:List Way)(v:Int):cE (a++b) v=(cE a v).or (cE b v):=by
 rw[ON,ON,ON,List.find?_append]
def dC(W:List Way):Prop:=W.length<=1000∧∀w∈W,fZ w.ae∧0<=w.cost∧w.cost<=100000
theorem dC.app{a b:List Way}(ha:a.length<=100)(hb:b.length<=100)(h:dC a)(h':dC b):dC (a++b):=
 ⟨by simp;omega,λw hw=>(List.mem_append.1 hw).elim (h.2 w) (h'.2 w)⟩
def ji(W:List Way)(fr:Int)(x:aI):Option Way:=if x.owner=fr then some wz else cE W x.owner
theorem Gz{W:List Way}(hW:dC W){fr:Int}{x:aI}{w:Way}(h:ji W fr x=some w):fZ w.ae∧0<=w.cost∧w.cost<=100000:=by
 unfold ji at h
 split at h
 ·cases h;exact⟨zC,by decide,by decide⟩
 ·exact hW.2 w (sN h).1
def uO(W:List Way)(key fr:Int)(x:aI):Option Way:=if x.kind=3∧x.key=key∧x.cost<60000 then ji W fr x else none
theorem zL{W:List Way}{key fr:Int}{x:aI}{w:Way}(h:uO W key fr x=some w):(x.kind=3∧x.key=key∧x.cost<60000)∧ji W fr x=some w:=by
 unfold uO at h
 split at h
 ·rename_i hc;exact⟨hc,h⟩
 ·cases h
def qz(f:Option (Int×Way))(c:Int)(w:Way):Option (Int×Way):=
 match f with
 |none=>some (c,w)
 |some (l,b)=>if c=l then some (l,mR b w)else if c<l then some (c,w)else some (l,b)
def rS(W:List Way)(key fr:Int)(o:Option Way)(x:aI):Option Way:=if x.jX=true then o else match uO W key fr x with|none=>o|some w=>gU o ⟨key,w.cost+x.cost,w.ae⟩
def rT(W:List Way)(key fr:Int)(f:Option (Int×Way))(x:aI):Option (Int×Way):=if x.jX=true then match uO W key fr x with|none=>f|some w=>qz f x.cost ⟨key,w.cost,w.ae⟩else f
def fW(f:Option (Int×Way)):Way:=(f.getD (0,wz)).2
def fL(f:Option (Int×Way)):Int:=(f.getD (0,wz)).1
theorem wI(c:Int)(w:Way):fW (some (c,w))=w:=rfl
theorem wJ(c:Int)(w:Way):fL (some (c,w))=c:=rfl
def Er(o:Option Way):Prop:=∀b,o=some b->fZ b.ae
def Es(f:Option (Int×Way)):Prop:=∀c b,f=some (c,b)->fZ b.ae
theorem ab_{o:Option Way}(ho:Er o){w:Way}(hw:fZ w.ae):Er (gU o w):=
 Ep (l:=[w]) ho (by intro y hy;rw[List.mem_singleton]at hy;subst hy;exact hw)
theorem ab'{f:Option (Int×Way)}(hf:Es f){c:Int}{w:Way}(hw:fZ w.ae):Es (qz f c w):=by
 intro d b e
 unfold qz at e
 split at e
 ·cases e;exact hw
 ·rename_i l b0
  split at e
  ·cases e;exact zF (hf _ _ rfl) hw
  ·split at e
   ·cases e;exact hw
   ·cases e;exact hf _ _ rfl
theorem Mp{W:List Way}(hW:dC W){key fr:Int}{o:Option Way}(ho:Er o)(x:aI):Er (rS W key fr o x):=by
 unfold rS
 split
 ·exact ho
 ·split
  ·exact ho
  ·rename_i w hw
   exact ab_ ho (Gz hW (zL hw).2).1
theorem Mq{W:List Way}(hW:dC W){key fr:Int}{f:Option (Int×Way)}(hf:Es f)(x:aI):Es (rT W key fr f x):=by
 unfold rT
 split
 ·split
  ·exact hf
  ·rename_i w hw
   exact ab' hf (Gz hW (zL hw).2).1
 ·exact hf
def Et(s:List aI)(W:List Way)(key fr:Int):Option Way:=s.foldl (rS W key fr) none
def Eu(s:List aI)(W:List Way)(key fr:Int):Option (Int×Way):=s.foldl (rT W key fr) none
def zM(s:List aI)(W:List Way)(key fr:Int):Option bP:=
 match Et s W key fr with
 |some b=>some ⟨true,key,3,b.cost,0,b.ae⟩
 |none=>match Eu s W key fr with
  |some (l,b)=>some ⟨true,key,4,b.cost,l,b.ae⟩
  |none=>none
theorem Mr(a b:List Way)(ow fr:Int)(ha:a.length<=100)(hb:b.length<=100)(h:∀w∈a,w.ae.length<=1048576)(h':∀w∈b,w.ae.length<=1048576):
  FW [.l (a.map bM),.l (b.map bM),ii ow,ii fr]=some (if ow=fr then [ii ow,ii 0,.l [],bb true]else match cE (a++b) ow with|none=>[ii 0,ii 0,.l [],bb false]|some w=>bM w++[bb true]):=by
 have h1:=Gp a ow (by omega) h
 have h2:=Gp b ow (by omega) h'
 rw[Z9,Mo]
 by_cases k:ow=fr
 ·simp(disch:=omega) only[↓pq,↓pj,ps,pz,↓reduceIte,ah,ai,aj,ak,aq,au,av,aw,ax,Gk,k]
 ·by_cases p1:dQ a ow<0
  ·have o1:cE a ow=none:=by unfold cE;rw[if_pos p1]
   rw[if_pos p1]at h1
   rw[o1,Option.none_or]
   by_cases p2:dQ b ow<0
   ·have o2:cE b ow=none:=by unfold cE;rw[if_pos p2]
    rw[if_pos p2]at h2
    rw[o2]
    simp(disch:=omega) only[↓pq,↓pj,ps,pz,↓reduceIte,ah,ai,aj,ak,aq,au,av,aw,ax,Gk,k,h1,h2,cA]
   ·have o2:cE b ow=some (gt b (dQ b ow)):=by unfold cE;rw[if_neg p2]
    rw[if_neg p2]at h2
    rw[o2]
    simp only[bM,List.cons_append,List.nil_append]at h2⊢
    simp(disch:=omega) only[↓pq,↓pj,ps,pz,↓reduceIte,ah,ai,aj,ak,aq,au,av,aw,ax,Gk,k,h1,h2,cA]
  ·have o1:cE a ow=some (gt a (dQ a ow)):=by unfold cE;rw[if_neg p1]
   rw[if_neg p1]at h1
   rw[o1,Option.some_or]
   simp only[bM,List.cons_append,List.nil_append]at h1⊢
   simp(disch:=omega) only[↓pq,↓pj,ps,pz,↓reduceIte,ah,ai,aj,ak,aq,au,av,aw,ax,Gk,k,h1,cA]
theorem aca(s:List aI)(a b:List Way)(key fr:Int)(h:s.length<=1048576)(hs:iO s=true)(ha:a.length<=100)(hb:b.length<=100)(hA:dC a)(hB:dC b):
  Dl [.l (s.map bh),.l (a.map bM),.l (b.map bM),ii key,ii fr,bb false]=(λf:Option Way=>some [bb true,ii key,ii 3,ii (oW f).cost,ii 0,.l ((oW f).ae.map aA),bb f.isSome]) (Et s (a++b) key fr):=by
 have hW:dC (a++b):=dC.app ha hb hA hB
 rw[LI];simp(disch:=omega) only[↓pq,↓pj,ps,pz,↓reduceIte,ah,ai,aj,ak,aq,au,av,aw,ax,iN,Oz]
 refine jz s (λj (f:Option Way)=>[bb f.isSome,ii j,ii 3,ii (oW f).cost,ii 0,.l ((oW f).ae.map aA)]) (rS (a++b) key fr) (λf:Option Way=>some [bb true,ii key,ii 3,ii (oW f).cost,ii 0,.l ((oW f).ae.map aA),bb f.isSome]) none (λ_ f=>Er f) rfl (et h) (by intro b hb;(cases hb)) ?_ ?_
 ·intro j f hj hf
  have hm:=h_ (l:=s) (n:=(j:Int)) (by omega) hj
  have hc:=Mk hs hm
  refine⟨Mp hW hf _,λq=>?_⟩
  have hT:=Mr a b (gt s j).owner fr ha hb (λw hw=>by have:=lM (hA.2 w hw).1;omega) (λw hw=>by have:=lM (hB.2 w hw).1;omega)
  have cd:uO (a++b) key fr (gt s j)=none->rS (a++b) key fr f (gt s j)=f:=by
   intro e;unfold rS;rw[e];simp
  by_cases k1:(gt s j).kind=3∧(gt s j).key=key∧(gt s j).cost<60000
  rotate_left
  ·rw[cd (by unfold uO;rw[if_neg k1])]
   by_cases a1:(gt s j).kind=3
   ·by_cases a2:(gt s j).key=key
    ·have a3:(gt s j).cost>=60000:=by
      rcases Int.lt_or_le (gt s j).cost 60000 with h|h
      ·exact absurd ⟨a1,a2,h⟩ k1
      ·exact h
     cases dK:(gt s j).jX with
     |true=>simp(disch:=omega) only[↓pq,↓pj,ps,pz,↓reduceIte,ah,ai,aj,ak,aq,au,av,aw,ax,iN,hj,a1,a2,a3,dK,cA,Bool.true_eq_false,eq_iff_iff,true_iff,false_iff]
     |false=>simp(disch:=omega) only[↓pq,↓pj,ps,pz,↓reduceIte,ah,ai,aj,ak,aq,au,av,aw,ax,iN,hj,a1,a2,a3,dK,cA,Bool.true_eq_false,eq_iff_iff,true_iff,false_iff]
    ·simp(disch:=omega) only[↓pq,↓pj,ps,pz,↓reduceIte,ah,ai,aj,ak,aq,au,av,aw,ax,iN,hj,a1,a2]
   ·simp(disch:=omega) only[↓pq,↓pj,ps,pz,↓reduceIte,ah,ai,aj,ak,aq,au,av,aw,ax,iN,hj,a1]
  obtain⟨a1,a2,a3⟩:=k1
  have nR:¬(gt s j).cost>=60000:=by omega
  have n_:uO (a++b) key fr (gt s j)=ji (a++b) fr (gt s j):=by unfold uO;rw[if_pos ⟨a1,a2,a3⟩]
  cases dK:(gt s j).jX with
  |true=>
   have e1:rS (a++b) key fr f (gt s j)=f:=by unfold rS;rw[dK];rfl
   rw[e1]
   simp(disch:=omega) only[↓pq,↓pj,ps,pz,↓reduceIte,ah,ai,aj,ak,aq,au,av,aw,ax,iN,hj,a1,a2,dK,cA,Bool.true_eq_false,eq_iff_iff,true_iff,false_iff]
  |false=>
  by_cases lT:(gt s j).owner=fr
  ·have hO:ji (a++b) fr (gt s j)=some wz:=by unfold ji;rw[if_pos lT]
   rw[if_pos lT]at hT
   rw[lT]at hT
   have nS:n5 [.l [],.l []]=some [.l []]:=by
    have:=uN [] [] (by simp) (by simp)
    rw[Gn zC]at this;exact this
   have e1:rS (a++b) key fr f (gt s j)=gU f ⟨key,0+(gt s j).cost,[]⟩:=by unfold rS;rw[dK,n_,hO];rfl
   rw[e1]
   rw[Int.zero_add]
   cases f with
   |none=>simp(disch:=omega) only[↓pq,↓pj,ps,pz,↓reduceIte,ah,ai,aj,ak,aq,au,av,aw,ax,iN,hj,a1,a2,nR,dK,lT,List.map_nil,hT,nS,Int.zero_add,cA,Bool.true_eq_false,eq_iff_iff,true_iff,false_iff,Option.isSome_none];rfl
   |some b0=>
    have oZ:=lM (hf b0 rfl)
    have sd:n5 [.l (b0.ae.map aA),.l []]=some [.l ((qy b0.ae []).map aA)]:=uN b0.ae [] (by omega) (by first|omega|simp)
    unfold gU mR
    simp only[]
    by_cases q1:((gt s j).cost)>b0.cost
    ·have q2:¬((gt s j).cost)<b0.cost:=by omega
     have q3:¬((gt s j).cost)=b0.cost:=by omega
     simp only[q1,if_true]
     simp(disch:=omega) only[↓pq,↓pj,ps,pz,↓reduceIte,ah,ai,aj,ak,aq,au,av,aw,ax,iN,hj,a1,a2,nR,dK,lT,List.map_nil,hT,nS,Int.zero_add,cA,Bool.true_eq_false,eq_iff_iff,true_iff,false_iff,Option.isSome_some,zK,q2,q3]
    ·simp only[q1,if_false]
     by_cases q2:b0.cost>((gt s j).cost)
     ·have q3:((gt s j).cost)<b0.cost:=by omega
      simp only[q2,if_true]
      simp(disch:=omega) only[↓pq,↓pj,ps,pz,↓reduceIte,ah,ai,aj,ak,aq,au,av,aw,ax,iN,hj,a1,a2,nR,dK,lT,List.map_nil,hT,nS,Int.zero_add,cA,Bool.true_eq_false,eq_iff_iff,true_iff,false_iff,Option.isSome_some,zK,q3]
     ·have q3:¬((gt s j).cost)<b0.cost:=by omega
      have q4:((gt s j).cost)=b0.cost:=by omega
      simp only[q2,if_false]
      simp(disch:=omega) only[↓pq,↓pj,ps,pz,↓reduceIte,ah,ai,aj,ak,aq,au,av,aw,ax,iN,hj,a1,a2,nR,dK,lT,List.map_nil,hT,nS,Int.zero_add,cA,Bool.true_eq_false,eq_iff_iff,true_iff,false_iff,Option.isSome_some,zK,q3,q4,sd,show¬b0.cost>=60000 by omega]
  cases hO:cE (a++b) (gt s j).owner with
  |none=>
   have zN:ji (a++b) fr (gt s j)=none:=by unfold ji;rw[if_neg lT,hO]
   rw[cd (by rw[n_,zN])]
   rw[if_neg lT,hO]at hT
   simp(disch:=omega) only[↓pq,↓pj,ps,pz,↓reduceIte,ah,ai,aj,ak,aq,au,av,aw,ax,iN,hj,a1,a2,nR,dK,hT,cA]
  |some w=>
   have zN:ji (a++b) fr (gt s j)=some w:=by unfold ji;rw[if_neg lT,hO]
   have hw:=Gz hW zN
   have lR:=lM hw.1
   rw[if_neg lT,hO]at hT
   simp only[bM,List.cons_append,List.nil_append]at hT
   have nS:n5 [.l [],.l (w.ae.map aA)]=some [.l (w.ae.map aA)]:=by
    have:=uN [] w.ae (by simp) (by omega)
    rw[Gn hw.1]at this;exact this
   have e1:rS (a++b) key fr f (gt s j)=gU f ⟨key,w.cost+(gt s j).cost,w.ae⟩:=by unfold rS;rw[dK,n_,zN];rfl
   rw[e1]
   cases f with
   |none=>simp(disch:=omega) only[↓pq,↓pj,ps,pz,↓reduceIte,ah,ai,aj,ak,aq,au,av,aw,ax,iN,hj,a1,a2,nR,dK,hT,nS,Int.zero_add,cA,Bool.true_eq_false,eq_iff_iff,true_iff,false_iff,Option.isSome_none];rfl
   |some b0=>
    have oZ:=lM (hf b0 rfl)
    have sd:n5 [.l (b0.ae.map aA),.l (w.ae.map aA)]=some [.l ((qy b0.ae w.ae).map aA)]:=uN b0.ae w.ae (by omega) (by first|omega|simp)
    unfold gU mR
    simp only[]
    by_cases q1:(w.cost+(gt s j).cost)>b0.cost
    ·have q2:¬(w.cost+(gt s j).cost)<b0.cost:=by omega
     have q3:¬(w.cost+(gt s j).cost)=b0.cost:=by omega
     simp only[q1,if_true]
     simp(disch:=omega) only[↓pq,↓pj,ps,pz,↓reduceIte,ah,ai,aj,ak,aq,au,av,aw,ax,iN,hj,a1,a2,nR,dK,hT,nS,Int.zero_add,cA,Bool.true_eq_false,eq_iff_iff,true_iff,false_iff,Option.isSome_some,zK,q2,q3]
    ·simp only[q1,if_false]
     by_cases q2:b0.cost>(w.cost+(gt s j).cost)
     ·have q3:(w.cost+(gt s j).cost)<b0.cost:=by omega
      simp only[q2,if_true]
      simp(disch:=omega) only[↓pq,↓pj,ps,pz,↓reduceIte,ah,ai,aj,ak,aq,au,av,aw,ax,iN,hj,a1,a2,nR,dK,hT,nS,Int.zero_add,cA,Bool.true_eq_false,eq_iff_iff,true_iff,false_iff,Option.isSome_some,zK,q3]
     ·have q3:¬(w.cost+(gt s j).cost)<b0.cost:=by omega
      have q4:(w.cost+(gt s j).cost)=b0.cost:=by omega
      simp only[q2,if_false]
      simp(disch:=omega) only[↓pq,↓pj,ps,pz,↓reduceIte,ah,ai,aj,ak,aq,au,av,aw,ax,iN,hj,a1,a2,nR,dK,hT,nS,Int.zero_add,cA,Bool.true_eq_false,eq_iff_iff,true_iff,false_iff,Option.isSome_some,zK,q3,q4,sd]
 ·intro f q hf
  cases f with
  |none=>simp(disch:=omega) only[↓pq,↓pj,ps,pz,↓reduceIte,ah,ai,aj,ak,aq,au,av,aw,ax,iN,Option.isSome_none,cA]
  |some x=>simp(disch:=omega) only[↓pq,↓pj,ps,pz,↓reduceIte,ah,ai,aj,ak,aq,au,av,aw,ax,iN,Option.isSome_some]
theorem acb(s:List aI)(a b:List Way)(key fr:Int)(h:s.length<=1048576)(hs:iO s=true)(ha:a.length<=100)(hb:b.length<=100)(hA:dC a)(hB:dC b):
  Dl [.l (s.map bh),.l (a.map bM),.l (b.map bM),ii key,ii fr,bb true]=(λf:Option (Int×Way)=>some [bb true,ii key,ii (if f.isSome=true then 4 else 3),ii (fW f).cost,ii (fL f),.l ((fW f).ae.map aA),bb f.isSome]) (Eu s (a++b) key fr):=by
 have hW:dC (a++b):=dC.app ha hb hA hB
 rw[LI];simp(disch:=omega) only[↓pq,↓pj,ps,pz,↓reduceIte,ah,ai,aj,ak,aq,au,av,aw,ax,iN,Oz]
 refine jz s (λj (f:Option (Int×Way))=>[bb f.isSome,ii j,ii (if f.isSome=true then 4 else 3),ii (fW f).cost,ii (fL f),.l ((fW f).ae.map aA)]) (rT (a++b) key fr) (λf:Option (Int×Way)=>some [bb true,ii key,ii (if f.isSome=true then 4 else 3),ii (fW f).cost,ii (fL f),.l ((fW f).ae.map aA),bb f.isSome]) none (λ_ f=>Es f) rfl (et h) (by intro c b hb;(cases hb)) ?_ ?_
 ·intro j f hj hf
  have hm:=h_ (l:=s) (n:=(j:Int)) (by omega) hj
  have hc:=Mk hs hm
  refine⟨Mq hW hf _,λq=>?_⟩
  have hT:=Mr a b (gt s j).owner fr ha hb (λw hw=>by have:=lM (hA.2 w hw).1;omega) (λw hw=>by have:=lM (hB.2 w hw).1;omega)
  have cd:uO (a++b) key fr (gt s j)=none->rT (a++b) key fr f (gt s j)=f:=by
   intro e;unfold rT;rw[e];simp
  by_cases k1:(gt s j).kind=3∧(gt s j).key=key∧(gt s j).cost<60000
  rotate_left
  ·rw[cd (by unfold uO;rw[if_neg k1])]
   by_cases a1:(gt s j).kind=3
   ·by_cases a2:(gt s j).key=key
    ·have a3:(gt s j).cost>=60000:=by
      rcases Int.lt_or_le (gt s j).cost 60000 with h|h
      ·exact absurd ⟨a1,a2,h⟩ k1
      ·exact h
     cases dK:(gt s j).jX with
     |true=>simp(disch:=omega) only[↓pq,↓pj,ps,pz,↓reduceIte,ah,ai,aj,ak,aq,au,av,aw,ax,iN,hj,a1,a2,a3,dK,cA,Bool.true_eq_false,eq_iff_iff,true_iff,false_iff]
     |false=>simp(disch:=omega) only[↓pq,↓pj,ps,pz,↓reduceIte,ah,ai,aj,ak,aq,au,av,aw,ax,iN,hj,a1,a2,a3,dK,cA,Bool.true_eq_false,eq_iff_iff,true_iff,false_iff]
    ·simp(disch:=omega) only[↓pq,↓pj,ps,pz,↓reduceIte,ah,ai,aj,ak,aq,au,av,aw,ax,iN,hj,a1,a2]
   ·simp(disch:=omega) only[↓pq,↓pj,ps,pz,↓reduceIte,ah,ai,aj,ak,aq,au,av,aw,ax,iN,hj,a1]
  obtain⟨a1,a2,a3⟩:=k1
  have nR:¬(gt s j).cost>=60000:=by omega
  have n_:uO (a++b) key fr (gt s j)=ji (a++b) fr (gt s j):=by unfold uO;rw[if_pos ⟨a1,a2,a3⟩]
  cases dK:(gt s j).jX with
  |false=>
   have e1:rT (a++b) key fr f (gt s j)=f:=by unfold rT;rw[dK];rfl
   rw[e1]
   simp(disch:=omega) only[↓pq,↓pj,ps,pz,↓reduceIte,ah,ai,aj,ak,aq,au,av,aw,ax,iN,hj,a1,a2,dK,cA,Bool.true_eq_false,eq_iff_iff,true_iff,false_iff]
  |true=>
  by_cases lT:(gt s j).owner=fr
  ·have hO:ji (a++b) fr (gt s j)=some wz:=by unfold ji;rw[if_pos lT]
   rw[if_pos lT]at hT
   rw[lT]at hT
   have nS:n5 [.l [],.l []]=some [.l []]:=by
    have:=uN [] [] (by simp) (by simp)
    rw[Gn zC]at this;exact this
   have e1:rT (a++b) key fr f (gt s j)=qz f (gt s j).cost ⟨key,0,[]⟩:=by unfold rT;rw[dK,n_,hO];rfl
   rw[e1]
   cases f with
   |none=>simp(disch:=omega) only[↓pq,↓pj,ps,pz,↓reduceIte,ah,ai,aj,ak,aq,au,av,aw,ax,iN,hj,a1,a2,nR,dK,lT,List.map_nil,hT,nS,Int.zero_add,cA,Bool.true_eq_false,eq_iff_iff,true_iff,false_iff,Option.isSome_none];rfl
   |some lb=>
    obtain⟨l,b0⟩:=lb
    have oZ:=lM (hf l b0 rfl)
    have sd:n5 [.l (b0.ae.map aA),.l []]=some [.l ((qy b0.ae []).map aA)]:=uN b0.ae [] (by omega) (by first|omega|simp)
    unfold qz mR
    simp only[]
    by_cases q0:(gt s j).cost=l
    ·have Ev:¬l<l:=by omega
     have rU:¬l>=60000:=by omega
     simp only[q0,if_true]
     by_cases q1:(0)>b0.cost
     ·have q2:¬(0)<b0.cost:=by omega
      have q3:¬(0)=b0.cost:=by omega
      simp only[q1,if_true]
      simp(disch:=omega) only[↓pq,↓pj,ps,pz,↓reduceIte,ah,ai,aj,ak,aq,au,av,aw,ax,iN,hj,a1,a2,nR,dK,lT,List.map_nil,hT,nS,Int.zero_add,cA,Bool.true_eq_false,eq_iff_iff,true_iff,false_iff,Option.isSome_some,wI,wJ,q0,Ev,rU,q2,q3]
     ·simp only[q1,if_false]
      by_cases q2:b0.cost>(0)
      ·have q3:(0)<b0.cost:=by omega
       simp only[q2,if_true]
       simp(disch:=omega) only[↓pq,↓pj,ps,pz,↓reduceIte,ah,ai,aj,ak,aq,au,av,aw,ax,iN,hj,a1,a2,nR,dK,lT,List.map_nil,hT,nS,Int.zero_add,cA,Bool.true_eq_false,eq_iff_iff,true_iff,false_iff,Option.isSome_some,wI,wJ,q0,Ev,rU,q3]
      ·have q3:¬(0)<b0.cost:=by omega
       have q4:(0)=b0.cost:=by omega
       simp only[q2,if_false]
       simp(disch:=omega) only[↓pq,↓pj,ps,pz,↓reduceIte,ah,ai,aj,ak,aq,au,av,aw,ax,iN,hj,a1,a2,nR,dK,lT,List.map_nil,hT,nS,Int.zero_add,cA,Bool.true_eq_false,eq_iff_iff,true_iff,false_iff,Option.isSome_some,wI,wJ,q0,Ev,rU,q3,q4,sd]
    ·simp only[q0,if_false]
     by_cases q1:(gt s j).cost<l
     ·simp only[q1,if_true]
      simp(disch:=omega) only[↓pq,↓pj,ps,pz,↓reduceIte,ah,ai,aj,ak,aq,au,av,aw,ax,iN,hj,a1,a2,nR,dK,lT,List.map_nil,hT,nS,Int.zero_add,cA,Bool.true_eq_false,eq_iff_iff,true_iff,false_iff,Option.isSome_some,wI,wJ,q0,q1]
     ·simp only[q1,if_false]
      simp(disch:=omega) only[↓pq,↓pj,ps,pz,↓reduceIte,ah,ai,aj,ak,aq,au,av,aw,ax,iN,hj,a1,a2,nR,dK,lT,List.map_nil,hT,nS,Int.zero_add,cA,Bool.true_eq_false,eq_iff_iff,true_iff,false_iff,Option.isSome_some,wI,wJ,q0,q1]
  cases hO:cE (a++b) (gt s j).owner with
  |none=>
   have zN:ji (a++b) fr (gt s j)=none:=by unfold ji;rw[if_neg lT,hO]
   rw[cd (by rw[n_,zN])]
   rw[if_neg lT,hO]at hT
   simp(disch:=omega) only[↓pq,↓pj,ps,pz,↓reduceIte,ah,ai,aj,ak,aq,au,av,aw,ax,iN,hj,a1,a2,nR,dK,hT,cA]
  |some w=>
   have zN:ji (a++b) fr (gt s j)=some w:=by unfold ji;rw[if_neg lT,hO]
   have hw:=Gz hW zN
   have lR:=lM hw.1
   rw[if_neg lT,hO]at hT
   simp only[bM,List.cons_append,List.nil_append]at hT
   have nS:n5 [.l [],.l (w.ae.map aA)]=some [.l (w.ae.map aA)]:=by
    have:=uN [] w.ae (by simp) (by omega)
    rw[Gn hw.1]at this;exact this
   have e1:rT (a++b) key fr f (gt s j)=qz f (gt s j).cost ⟨key,w.cost,w.ae⟩:=by unfold rT;rw[dK,n_,zN];rfl
   rw[e1]
   cases f with
   |none=>simp(disch:=omega) only[↓pq,↓pj,ps,pz,↓reduceIte,ah,ai,aj,ak,aq,au,av,aw,ax,iN,hj,a1,a2,nR,dK,hT,nS,Int.zero_add,cA,Bool.true_eq_false,eq_iff_iff,true_iff,false_iff,Option.isSome_none];rfl
   |some lb=>
    obtain⟨l,b0⟩:=lb
    have oZ:=lM (hf l b0 rfl)
    have sd:n5 [.l (b0.ae.map aA),.l (w.ae.map aA)]=some [.l ((qy b0.ae w.ae).map aA)]:=uN b0.ae w.ae (by omega) (by first|omega|simp)
    unfold qz mR
    simp only[]
    by_cases q0:(gt s j).cost=l
    ·have Ev:¬l<l:=by omega
     have rU:¬l>=60000:=by omega
     simp only[q0,if_true]
     by_cases q1:(w.cost)>b0.cost
     ·have q2:¬(w.cost)<b0.cost:=by omega
      have q3:¬(w.cost)=b0.cost:=by omega
      simp only[q1,if_true]
      simp(disch:=omega) only[↓pq,↓pj,ps,pz,↓reduceIte,ah,ai,aj,ak,aq,au,av,aw,ax,iN,hj,a1,a2,nR,dK,hT,nS,Int.zero_add,cA,Bool.true_eq_false,eq_iff_iff,true_iff,false_iff,Option.isSome_some,wI,wJ,q0,Ev,rU,q2,q3]
     ·simp only[q1,if_false]
      by_cases q2:b0.cost>(w.cost)
      ·have q3:(w.cost)<b0.cost:=by omega
       simp only[q2,if_true]
       simp(disch:=omega) only[↓pq,↓pj,ps,pz,↓reduceIte,ah,ai,aj,ak,aq,au,av,aw,ax,iN,hj,a1,a2,nR,dK,hT,nS,Int.zero_add,cA,Bool.true_eq_false,eq_iff_iff,true_iff,false_iff,Option.isSome_some,wI,wJ,q0,Ev,rU,q3]
      ·have q3:¬(w.cost)<b0.cost:=by omega
       have q4:(w.cost)=b0.cost:=by omega
       simp only[q2,if_false]
       simp(disch:=omega) only[↓pq,↓pj,ps,pz,↓reduceIte,ah,ai,aj,ak,aq,au,av,aw,ax,iN,hj,a1,a2,nR,dK,hT,nS,Int.zero_add,cA,Bool.true_eq_false,eq_iff_iff,true_iff,false_iff,Option.isSome_some,wI,wJ,q0,Ev,rU,q3,q4,sd]
    ·simp only[q0,if_false]
     by_cases q1:(gt s j).cost<l
     ·simp only[q1,if_true]
      simp(disch:=omega) only[↓pq,↓pj,ps,pz,↓reduceIte,ah,ai,aj,ak,aq,au,av,aw,ax,iN,hj,a1,a2,nR,dK,hT,nS,Int.zero_add,cA,Bool.true_eq_false,eq_iff_iff,true_iff,false_iff,Option.isSome_some,wI,wJ,q0,q1]
     ·simp only[q1,if_false]
      simp(disch:=omega) only[↓pq,↓pj,ps,pz,↓reduceIte,ah,ai,aj,ak,aq,au,av,aw,ax,iN,hj,a1,a2,nR,dK,hT,nS,Int.zero_add,cA,Bool.true_eq_false,eq_iff_iff,true_iff,false_iff,Option.isSome_some,wI,wJ,q0,q1]
 ·intro f q hf
  cases f with
  |none=>simp(disch:=omega) only[↓pq,↓pj,ps,pz,↓reduceIte,ah,ai,aj,ak,aq,au,av,aw,ax,iN,Option.isSome_none,cA]
  |some x=>simp(disch:=omega) only[↓pq,↓pj,ps,pz,↓reduceIte,ah,ai,aj,ak,aq,au,av,aw,ax,iN,Option.isSome_some]
def upto(n:Nat):List Int:=(List.range n).map λi:Nat=>(i:Int)+1
theorem nT{n:Nat}{x:Int}:x∈upto n↔1<=x∧x<=n:=by
 unfold upto
 rw[List.mem_map]
 constructor
 ·rintro⟨i,hi,rfl⟩
  have:=List.mem_range.1 hi
  omega
 ·intro h
  exact⟨(x-1).toNat,List.mem_range.2 (by omega),by omega⟩
theorem Ms(n:Nat):(upto n).Pairwise (· < ·):=by
 unfold upto
 rw[List.pairwise_map]
 exact List.pairwise_lt_range.imp λ{a b} h=>by omega
theorem acd{n:Nat}{l:List Int}(h:l.Pairwise (· < ·))(hm:∀x∈l,1<=x∧x<=n):l=(upto n).filter λx=>l.contains x:=
 wC h ((Ms n).filter _) λx=>by
  rw[List.mem_filter,nT,List.contains_iff_mem]
  exact⟨λhx=>⟨hm x hx,hx⟩,λhx=>hx.2⟩
theorem Ew{n:Nat}{l:List Int}(h:l.Pairwise (· < ·))(hm:∀x∈l,1<=x∧x<=n):l.length<=n:=by
 rw[acd h hm]
 refine Nat.le_trans (List.length_filter_le _ _) ?_
 unfold upto
 simp
theorem ace{s:List aI}{ar fr:Int}{w:Way}(hw:w∈eX s ar fr):∃v∈eX s ar fr,v.to=fr:=by
 unfold eX at hw⊢
 by_cases hc:iO s=true∧jg fr 1 6=true∧0<=og s ar fr
 ·rw[if_pos hc]at hw⊢
  obtain⟨D,hI⟩:=Ek hc.1 ar fr 6 (W0 fr) [] (hX.start (bU.1 hc.2.1))
  have hl:=hI.ok.len
  obtain⟨h1,h2⟩:=List.mem_filter.1 hw
  have h2:w.to≠0:=by simpa using h2
  obtain⟨i,hi,rfl⟩:=List.mem_iff_getElem.1 h1
  have nc:=hI.ok.to (i:Int) (by omega) (by omega)
  rw[gC hi]at nc
  have nc:=nc.resolve_left h2
  rcases hI.first with⟨_,hf⟩|hf
  ·have HN:=hI.fr6
   have:=hf (i:Int) (by omega) (by omega) (by rw[gC hi];exact h2)
   exact⟨_,hw,by rw[nc,this]⟩
  ·have h3:=hI.mem fr hf
   have h4:=hI.fr6
   have h5:=(hI.ok.to fr (by omega) (by omega)).resolve_left h3.2
   refine⟨_,List.mem_filter.2 ⟨h_ (n:=fr) (by omega) (by omega),?_⟩,h5⟩
   simpa using h3.2
 ·rw[if_neg hc]at hw;cases hw
theorem acf{l:List Way}{w:Way}(h:w∈l):¬dQ l w.to<0:=by
 intro hc
 have:=(AH _ _).1 hc w h
 simp at this
theorem acg{s:List aI}{A:List Int}{fr:Int}{v:Way}(h:v∈oh s A fr):¬dQ (gf s A fr) v.to<0:=by
 rcases Gu (v:=v.to) _ ((oh s A fr).filter λw=>w.to==v.to) rfl (λy hy=>by have:=List.mem_filter.1 hy;exact⟨by simpa using this.2,(Gv y this.1).2.1⟩)with⟨e,_⟩|⟨b,e,hb,_⟩
 ·have:v∈(oh s A fr).filter λw=>w.to==v.to:=List.mem_filter.2 ⟨h,by simp⟩
  rw[e]at this;cases this
 ·have hm:b∈gf s A fr:=(Me (λx hx=>(Gv x hx).2.1)).2 ⟨by rw[hb];exact(Gv v h).1,by rw[hb];exact e⟩
  rw[<-hb]
  exact acf hm
theorem Mu{s:List aI}{A:List Int}{z:Bool}{fr:Int}{w:Way}(h:w∈j8 s A z fr):(1<=w.to∧w.to<=6)∧fZ w.ae∧(0<=w.cost∧w.cost<60000)∧w.to≠fr∧dQ (gf s A fr) w.to<0:=by
 have h1:=Ej (λx hx=>(Ml x hx).2.1) h
 obtain⟨hh,y,hy,e1,e2⟩:=h1
 have h2:=Ml y hy
 obtain⟨x,hx,h3⟩:=List.mem_filterMap.1 hy
 obtain⟨h4,y',h5,h6,h7⟩:=Gx h3
 have hk:x.key=w.to:=by rw[<-e1,h7]
 refine⟨by rw[<-e1];exact h2.1,hh,by rw[<-e2];exact h2.2.2,?_,by rw[<-hk];exact h4.2.2.2.2.2⟩
 intro e
 obtain⟨v,hv,ev⟩:=ace (sN h5).1
 have hc:v∈oh s A fr:=List.mem_flatMap.2 ⟨x.aC,List.contains_iff_mem.1 h4.2.2.2.1,hv⟩
 have h8:=acg hc
 have he:v.to=x.key:=by omega
 rw[he]at h8
 exact h8 h4.2.2.2.2.2
theorem OO{s:List aI}{A:List Int}{fr:Int}{w:Way}(h:w∈gf s A fr):(1<=w.to∧w.to<=6)∧fZ w.ae∧(0<=w.cost∧w.cost<=6000):=by
 obtain⟨hh,y,hy,e1,e2⟩:=Ej (λx hx=>(Gv x hx).2.1) h
 have:=Gv y hy
 exact⟨by rw[<-e1];exact this.1,hh,by rw[<-e2];exact this.2.2⟩
theorem wK{s:List aI}{A:List Int}{fr:Int}:dC (gf s A fr):=⟨Nat.le_trans Gy (by omega),λw hw=>by
 have:=OO hw
 exact⟨this.2.1,this.2.2.1,by omega⟩⟩
theorem Mw{s:List aI}{A:List Int}{z:Bool}{fr:Int}:(j8 s A z fr).length<=6:=Mf _
theorem wL{s:List aI}{A:List Int}{z:Bool}{fr:Int}:dC (j8 s A z fr):=⟨Nat.le_trans Mw (by omega),λw hw=>by
 have:=Mu hw
 exact⟨this.2.1,this.2.2.1.1,by omega⟩⟩
def Ey(w:Way):bP:=⟨false,w.to,1,w.cost,0,w.ae⟩
def zO(w:Way):bP:=⟨false,w.to,2,w.cost,0,w.ae⟩
def GA(s:List aI)(A:List Int)(z:Bool)(fr:Int):List bP:=
 ((gf s A fr).filter λw=>!(w.to==fr)).map Ey++(j8 s A z fr).map zO++(upto 9).filterMap λk=>zM s (gf s A fr++j8 s A z fr) k fr
theorem Mx{W:List Way}(hW:dC W){key fr:Int}(l:List aI)(o:Option Way)(ho:Er o):Er (l.foldl (rS W key fr) o):=by
 induction l generalizing o with
 |nil=>exact ho
 |cons x l ih=>exact ih _ (Mp hW ho x)
theorem My{W:List Way}(hW:dC W){key fr:Int}(l:List aI)(o:Option (Int×Way))(ho:Es o):Es (l.foldl (rT W key fr) o):=by
 induction l generalizing o with
 |nil=>exact ho
 |cons x l ih=>exact ih _ (Mq hW ho x)
theorem Mz(v0:Bool)(v1:Int)(v2:Int)(v3:Int)(v4:Int)(v5:List Int):Prim.ev (.lit 6 []) [bb v0,ii v1,ii v2,ii v3,ii v4,.l (v5.map aA)]=some (.l ([(⟨v0,v1,v2,v3,v4,v5⟩:bP)].map gE)):=n4 (by decide) rfl rfl
theorem ach(s:List aI)(A:List Int)(z:Bool)(fr:Int)(h:s.length<=1048576)(hn:dj s)(hs:iO s=true)(ha:A.length<=1048576):FX [.l (s.map bh),.l (A.map aA),bb z,ii fr]=some [.l ((GA s A z fr).map gE)]:=by
 have hwl:=Gy (s:=s) (A:=A) (fr:=fr)
 have tH:=Mw (s:=s) (A:=A) (z:=z) (fr:=fr)
 rw[aae];simp(disch:=omega) only[↓pq,↓pj,ps,pz,↓reduceIte,ah,ai,aj,ak,aq,au,av,aw,ax,ww,wx,wy,jP_,ux_ _ _ _ h hn ha,jJ_ _ _ _ _ h hn ha,OG _ h hn,hs]
 refine(jz (gf s A fr) (λj C=>[.l (C.map gE),ii j]) (λC w=>if(!(w.to==fr))=true then C++[Ey w]else C) (λC=>some [T.l ((C++(j8 s A z fr).map zO++(upto 9).filterMap λk=>zM s (gf s A fr++j8 s A z fr) k fr).map gE)]) [] (λj C=>C.length<=j) rfl (et (by omega)) (by simp) ?_ ?_).trans (by rw[Ft,List.nil_append];rfl)
 ·intro j C hj hC
  have hm:=OO (h_ (l:=gf s A fr) (n:=(j:Int)) (by omega) hj)
  have hl:=lM hm.2.1
  refine⟨by split;(· simp;omega);(· omega),λq=>?_⟩
  by_cases k:(gt (gf s A fr) (j:Int)).to=fr
  ·have:(!((gt (gf s A fr) (j:Int)).to==fr))=false:=by simpa using k
   rw[this]
   simp(disch:=omega) only[↓pq,↓pj,ps,pz,↓reduceIte,ah,ai,aj,ak,aq,au,av,aw,ax,ww,wx,wy,hj,k,cA]
  ·have:(!((gt (gf s A fr) (j:Int)).to==fr))=true:=by simpa using k
   rw[this]
   simp(disch:=omega) only[↓pq,↓pj,ps,pz,↓reduceIte,ah,ai,aj,ak,aq,au,av,aw,ax,ww,wx,wy,hj,k,Mz,Ey]
 ·intro C q hC
  have hC6:C.length<=6:=by omega
  simp(disch:=omega) only[↓pq,↓pj,ps,pz,↓reduceIte,ah,ai,aj,ak,aq,au,av,aw,ax,ww,wx,wy,]
  refine(jz (j8 s A z fr) (λj C=>[.l (C.map gE),ii j]) (λC w=>C++[zO w]) (λC=>some [T.l ((C++(upto 9).filterMap λk=>zM s (gf s A fr++j8 s A z fr) k fr).map gE)]) C (λj C=>C.length<=6+j) rfl (et (by omega)) (by omega) ?_ ?_).trans (by rw[N_])
  ·intro j C hj hC
   have hm:=Mu (h_ (l:=j8 s A z fr) (n:=(j:Int)) (by omega) hj)
   have hl:=lM hm.2.1
   have k:¬(gt (j8 s A z fr) (j:Int)).to=fr:=hm.2.2.2.1
   refine⟨by simp;omega,λq=>?_⟩
   simp(disch:=omega) only[↓pq,↓pj,ps,pz,↓reduceIte,ah,ai,aj,ak,aq,au,av,aw,ax,ww,wx,wy,hj,k,Mz,zO]
  ·intro C q hC
   have alC:C.length<=12:=by omega
   simp(disch:=omega) only[↓pq,↓pj,ps,pz,↓reduceIte,ah,ai,aj,ak,aq,au,av,aw,ax,ww,wx,wy,]
   refine(qP 9 (λi D=>[.l (D.map gE),ii (i+1)]) (λD i=>D++(zM s (gf s A fr++j8 s A z fr) ((i:Int)+1) fr).toList) (λD=>some [T.l (D.map gE)]) C (λj D=>D.length<=12+j) rfl (et (by omega)) (by omega) ?_ ?_).trans (by rw[OL (λi:Nat=>(zM s (gf s A fr++j8 s A z fr) ((i:Int)+1) fr).toList),zI])
   ·intro j D hj hD
    have oX:(j:Int)+1<=9:=by omega
    have Ez:=aca s (gf s A fr) (j8 s A z fr) ((j:Int)+1) fr h hs (by omega) (by omega) wK wL
    have GC:=acb s (gf s A fr) (j8 s A z fr) ((j:Int)+1) fr h hs (by omega) (by omega) wK wL
    refine⟨by cases zM s (gf s A fr++j8 s A z fr) ((j:Int)+1) fr<;>simp<;>omega,λq=>?_⟩
    unfold zM
    cases hb:Et s (gf s A fr++j8 s A z fr) ((j:Int)+1) fr with
    |some b=>
     have Q5:b.ae.length<=6:=lM ((Mx (dC.app (by omega) (by omega) wK wL) s none (by intro b hb;(cases hb))) b hb)
     rw[hb]at Ez
     simp only[]at Ez
     simp(disch:=omega) only[↓pq,↓pj,ps,pz,↓reduceIte,ah,ai,aj,ak,aq,au,av,aw,ax,ww,wx,wy,oX,Ez,Option.isSome_some,zK,cA,Option.toList_some]
    |none=>
     rw[hb]at Ez
     simp only[]at Ez
     cases hf:Eu s (gf s A fr++j8 s A z fr) ((j:Int)+1) fr with
     |none=>
      rw[hf]at GC
      simp only[]at GC
      simp(disch:=omega) only[↓pq,↓pj,ps,pz,↓reduceIte,ah,ai,aj,ak,aq,au,av,aw,ax,ww,wx,wy,oX,Ez,GC,Option.isSome_none,cA,Option.toList_none,List.append_nil]
     |some lb=>
      obtain⟨l,b⟩:=lb
      have Q5:b.ae.length<=6:=lM ((My (dC.app (by omega) (by omega) wK wL) s none (by intro c b hb;(cases hb))) l b hf)
      rw[hf]at GC
      simp only[]at GC
      simp(disch:=omega) only[↓pq,↓pj,ps,pz,↓reduceIte,ah,ai,aj,ak,aq,au,av,aw,ax,ww,wx,wy,oX,Ez,GC,Option.isSome_none,Option.isSome_some,wI,wJ,cA,Option.toList_some]
   ·intro D q hD
    simp(disch:=omega) only[↓pq,↓pj,ps,pz,↓reduceIte,ah,ai,aj,ak,aq,au,av,aw,ax,ww,wx,wy,]
theorem MA{x:Net}(h:qw x=true):dJ (mF x.n) gT x.cX=true∧x.cX.length<=12:=by
 unfold qw at h
 simp only[bB,decide_eq_true_eq]at h
 exact⟨h.1.2,h.1.1.1.2⟩
theorem AZ{n:Int}{ls:List bC}(h:dJ (mF n) gT ls=true){l:bC}(hl:l∈ls):(1<=n∧n<=6)∧(1<=l.a∧l.a<=n)∧(1<=l.b∧l.b<=n)∧l.a<l.b∧(1<=l.cost∧l.cost<=1000)∧0<=l.aC∧l.aC<=2:=by
 obtain⟨i,hi,rfl⟩:=List.mem_iff_getElem.1 hl
 have:=cY.1 h i hi
 rw[gC hi]at this
 simp only[bB,mF,bU,decide_eq_true_eq]at this
 omega
def three:List Int:=[0,1,2]
theorem uc{x:Int}:x∈three↔0<=x∧x<=2:=by simp[three];omega
def rV(node a:Int)(l:bC):Bool:=l.aC==a&&(l.a==node||l.b==node)
def pn(ls:List bC)(node:Int):List Int:=three.filter λa=>ls.any (rV node a)
theorem OP(ls:List bC)(node:Int):(pn ls node).length<=3:=List.length_filter_le _ _
def ud(ls:List bC)(node a:Int):List Int:=rL.filter λv=>decide (pN ls node v a>0)
theorem MB(t0 t2:T)(ls:List bC)(node a:Int)(hl:ls.length<=12):FE [t0,.l (ls.map fe),t2,ii node,ii a]=some [.l ((ud ls node a).map aA)]:=by
 rw[YP];simp(disch:=omega) only[↓pq,↓pj,ps,pz,↓reduceIte,ah,ai,aj,ak,aq,au,av,aw,ax,LA,DD]
 refine(qP 6 (λi c=>[.l (c.map aA),ii (i+1)]) (λc i=>if decide (pN ls node ((i:Int)+1) a>0)=true then c++[(i:Int)+1]else c) (λc=>some [T.l (c.map aA)]) [] (λi c=>c.length<=i) rfl (et (by omega)) (by simp) ?_ ?_).trans ?_
 ·intro i c hi hc
  have bR:(i:Int)+1<=6:=by omega
  refine⟨by split;(· simp;omega);(· omega),λq=>?_⟩
  by_cases k:pN ls node ((i:Int)+1) a>0
  ·simp(disch:=omega) only[↓pq,↓pj,ps,pz,↓reduceIte,ah,ai,aj,ak,aq,au,av,aw,ax,LA,bR,LS _ _ _ _ _ _ (show ls.length<=1048576 by omega),k,decide_true]
  ·simp(disch:=omega) only[↓pq,↓pj,ps,pz,↓reduceIte,ah,ai,aj,ak,aq,au,av,aw,ax,LA,bR,LS _ _ _ _ _ _ (show ls.length<=1048576 by omega),k,decide_false,cA]
 ·intro c q hc
  simp(disch:=omega) only[↓pq,↓pj,ps,pz,↓reduceIte,ah,ai,aj,ak,aq,au,av,aw,ax,LA,]
 ·unfold ud
  rw[Ft (λi:Nat=>decide (pN ls node ((i:Int)+1) a>0)) (λi:Nat=>(i:Int)+1),wH,List.filter_map]
  rfl
theorem aci{n:Int}{ls:List bC}(h:dJ (mF n) gT ls=true)(node a:Int):(ud ls node a).length>0↔ls.any (rV node a)=true:=by
 unfold ud
 rw[show((rL.filter λv=>decide (pN ls node v a>0)).length>0)↔∃v∈rL,pN ls node v a>0 by
  rw[gt_iff_lt,List.length_pos_iff_exists_mem]
  constructor
  ·rintro⟨v,hv⟩
   have:=List.mem_filter.1 hv
   exact⟨v,this.1,by simpa using this.2⟩
  ·rintro⟨v,hv,e⟩
   exact⟨v,List.mem_filter.2 ⟨hv,by simpa using e⟩⟩,List.any_eq_true]
 have key:∀v,pN ls node v a>0↔∃x∈ls,fE node v a x=true:=by
  intro v
  have hz:=LU h node v a
  constructor
  ·intro hc
   have h0:0<=eg (fE node v a) ls:=by
    rcases Int.lt_or_le (eg (fE node v a) ls) 0 with h1|h1
    ·have:=hz.2 h1;omega
    ·exact h1
   exact⟨_,h_ h0 (tS _ _),zi _ _ h0⟩
  ·rintro⟨x,hx,e⟩
   have h0:¬eg (fE node v a) ls<0:=λhc=>by
    have:=(AH _ _).1 hc x hx
    rw[e]at this;cases this
   have h1:=AZ h (h_ (l:=ls) (n:=eg (fE node v a) ls) (by omega) (tS _ _))
   unfold pN
   rw[if_neg h0]
   omega
 constructor
 ·rintro⟨v,hv,hc⟩
  obtain⟨x,hx,e⟩:=(key v).1 hc
  refine⟨x,hx,?_⟩
  unfold fE at e
  unfold rV
  simp only[bB,Bool.or_eq_true,beq_iff_eq]at e⊢
  rcases e with⟨e1,e2|e2⟩
  ·exact⟨e1,.inl e2.1⟩
  ·exact⟨e1,.inr e2.2⟩
 ·rintro⟨x,hx,e⟩
  have hl:=AZ h hx
  unfold rV at e
  simp only[bB,Bool.or_eq_true,beq_iff_eq]at e
  rcases e with⟨e1,e2|e2⟩
  ·exact⟨x.b,fA.2 (by omega),(key _).2 ⟨x,hx,by unfold fE;simp[e1,e2]⟩⟩
  ·exact⟨x.a,fA.2 (by omega),(key _).2 ⟨x,hx,by unfold fE;simp[e1,e2]⟩⟩
theorem OQ(t0 t2:T)(ls:List bC)(node n:Int)(h:dJ (mF n) gT ls=true)(hl:ls.length<=12):uy [t0,.l (ls.map fe),t2,ii node]=some [.l ((pn ls node).map aA)]:=by
 rw[YS];simp(disch:=omega) only[↓pq,↓pj,ps,pz,↓reduceIte,ah,ai,aj,ak,aq,au,av,aw,ax,LB,YQ]
 refine(qP 3 (λi c=>[.l (c.map aA),ii i]) (λc i=>if ls.any (rV node (i:Int))=true then c++[(i:Int)]else c) (λc=>some [T.l (c.map aA)]) [] (λi c=>c.length<=i) rfl (et (by omega)) (by simp) ?_ ?_).trans ?_
 ·intro i c hi hc
  have bR:(i:Int)<=2:=by omega
  refine⟨by split;(· simp;omega);(· omega),λq=>?_⟩
  have hn:=aci h node (i:Int)
  by_cases k:ls.any (rV node (i:Int))=true
  ·have h1:((ud ls node (i:Int)).length:Int)>0:=by have:=hn.2 k;omega
   simp(disch:=omega) only[↓pq,↓pj,ps,pz,↓reduceIte,ah,ai,aj,ak,aq,au,av,aw,ax,LB,bR,MB _ _ _ _ _ hl,k,h1]
  ·have h1:¬((ud ls node (i:Int)).length:Int)>0:=by
    intro hc
    exact k (hn.1 (by omega))
   simp(disch:=omega) only[↓pq,↓pj,ps,pz,↓reduceIte,ah,ai,aj,ak,aq,au,av,aw,ax,LB,bR,MB _ _ _ _ _ hl,k,h1,cA]
 ·intro c q hc
  simp(disch:=omega) only[↓pq,↓pj,ps,pz,↓reduceIte,ah,ai,aj,ak,aq,au,av,aw,ax,LB,]
 ·unfold pn
  rw[Ft (λi:Nat=>ls.any (rV node (i:Int))) (λi:Nat=>(i:Int)),show three=(List.range 3).map (λi:Nat=>(i:Int)) from rfl,List.filter_map]
  rfl
def A0(ls:List bC)(node:Int):Bool:=(pn ls node).contains 0&&decide ((pn ls node).length>1)
theorem EA(t0 t2:T)(ls:List bC)(node n:Int)(h:dJ (mF n) gT ls=true)(hl:ls.length<=12):zn [t0,.l (ls.map fe),t2,ii node]=some [bb (A0 ls node)]:=by
 have hal:=OP ls node
 rw[Y5];simp(disch:=omega) only[↓pq,↓pj,ps,pz,↓reduceIte,ah,ai,aj,ak,aq,au,av,aw,ax,DG,OQ _ _ _ _ _ h hl]
 unfold A0
 by_cases k:((pn ls node).length:Int)>1
 ·have k':(pn ls node).length>1:=by omega
  have h0:∀(p:Int->Bool),(three.filter p).length>1->(three.filter p).contains 0=decide (gt (three.filter p) 0=0):=by
   intro p hp
   unfold three at hp⊢
   simp only[List.filter_cons,List.filter_nil]at hp⊢
   revert hp
   cases p 0<;>cases p 1<;>cases p 2<;>first|(intro _;rfl)|(intro h;exact absurd h (by decide))
  rw[show(pn ls node).contains 0=decide (gt (pn ls node) 0=0) from h0 _ k']
  simp(disch:=omega) only[↓pq,↓pj,ps,pz,↓reduceIte,ah,ai,aj,ak,aq,au,av,aw,ax,k,k',decide_true,Bool.and_true]
  rfl
 ·have k':¬(pn ls node).length>1:=by omega
  simp(disch:=omega) only[↓pq,↓pj,ps,pz,↓reduceIte,ah,ai,aj,ak,aq,au,av,aw,ax,k,k',decide_false,Bool.and_false]
def MC(o:Option Way):Prop:=∀b,o=some b->0<=b.cost∧b.cost<=200000
def ME(f:Option (Int×Way)):Prop:=∀c b,f=some (c,b)->(0<=c∧c<=60000)∧0<=b.cost∧b.cost<=200000
theorem ack{s:List aI}(hs:iO s=true){W:List Way}(hW:dC W){key fr:Int}(l:List aI)(hl:∀x∈l,x∈s)(o:Option Way)(ho:MC o):MC (l.foldl (rS W key fr) o):=by
 induction l generalizing o with
 |nil=>exact ho
 |cons x l ih=>
  refine ih (λy hy=>hl y (.tail _ hy)) _ ?_
  have hx:=Mk hs (hl x (.head _))
  unfold rS
  split
  ·exact ho
  ·split
   ·exact ho
   ·rename_i w hw
    have hw:=Gz hW (zL hw).2
    cases o with
    |none=>intro b hb;simp only[gU]at hb;cases hb;show 0<=w.cost+x.cost∧w.cost+x.cost<=200000;omega
    |some b0=>
     intro b hb;simp only[gU]at hb;cases hb
     have:=ho b0 rfl
     rcases zG b0 ⟨key,w.cost+x.cost,w.ae⟩with e|e<;>rw[e]
     ·exact this
     ·show 0<=w.cost+x.cost∧w.cost+x.cost<=200000;omega
theorem acm{s:List aI}(hs:iO s=true){W:List Way}(hW:dC W){key fr:Int}(l:List aI)(hl:∀x∈l,x∈s)(o:Option (Int×Way))(ho:ME o):ME (l.foldl (rT W key fr) o):=by
 induction l generalizing o with
 |nil=>exact ho
 |cons x l ih=>
  refine ih (λy hy=>hl y (.tail _ hy)) _ ?_
  have hx:=Mk hs (hl x (.head _))
  unfold rT
  split
  ·split
   ·exact ho
   ·rename_i w hw
    have hw:=Gz hW (zL hw).2
    intro c b hb
    unfold qz at hb
    split at hb
    ·cases hb;exact⟨hx,by show 0<=w.cost∧w.cost<=200000;omega⟩
    ·rename_i l0 b0
     have h0:=ho l0 b0 rfl
     split at hb
     ·cases hb
      refine⟨h0.1,?_⟩
      rcases zG b0 ⟨key,w.cost,w.ae⟩with e|e<;>rw[e]
      ·exact h0.2
      ·show 0<=w.cost∧w.cost<=200000;omega
     ·split at hb
      ·cases hb;exact⟨hx,by show 0<=w.cost∧w.cost<=200000;omega⟩
      ·cases hb;exact h0
  ·exact ho
theorem acn{l:List Int}(h:fZ l):l.length<=maxLen∧∀y∈l,KO y:=⟨by have:=lM h;unfold maxLen;omega,λy hy=>pc.mk (by have:=h.2 y hy;omega) (by have:=h.2 y hy;omega)⟩
theorem OR{t:Bool}{to kind cost jX:Int}{ae:List Int}(h1:0<=to∧to<=9)(h2:0<=kind∧kind<=4)(h3:0<=cost∧cost<=200000)(h4:0<=jX∧jX<=60000)(h5:fZ ae):zh ⟨t,to,kind,cost,jX,ae⟩∧ae.length<=6:=
 ⟨⟨pc.mk (by show _<=to;omega) (by show to<_;omega),pc.mk (by show _<=kind;omega) (by show kind<_;omega),pc.mk (by show _<=cost;omega) (by show cost<_;omega),pc.mk (by show _<=jX;omega) (by show jX<_;omega),acn h5⟩,lM h5⟩
theorem aco(s:List aI)(A:List Int)(z:Bool)(fr:Int):(GA s A z fr).length<=21:=by
 unfold GA
 have h1:=List.length_filter_le (λw:Way=>!(w.to==fr)) (gf s A fr)
 have h2:=Gy (s:=s) (A:=A) (fr:=fr)
 have h3:=Mw (s:=s) (A:=A) (z:=z) (fr:=fr)
 have h4:=List.length_filterMap_le (λk=>zM s (gf s A fr++j8 s A z fr) k fr) (upto 9)
 have h5:(upto 9).length=9:=rfl
 simp only[List.length_append,List.length_map]
 omega
theorem acp{s:List aI}(hs:iO s=true){A:List Int}{z:Bool}{fr:Int}:∀r∈GA s A z fr,zh r∧r.ae.length<=6:=by
 intro r hr
 have hW:dC (gf s A fr++j8 s A z fr):=dC.app (Nat.le_trans Gy (by omega)) (Nat.le_trans Mw (by omega)) wK wL
 unfold GA at hr
 rcases List.mem_append.1 hr with hr|hr
 ·rcases List.mem_append.1 hr with hr|hr
  ·obtain⟨w,hw,rfl⟩:=List.mem_map.1 hr
   have:=OO (List.mem_filter.1 hw).1
   exact OR (by omega) (by omega) (by omega) (by omega) this.2.1
  ·obtain⟨w,hw,rfl⟩:=List.mem_map.1 hr
   have:=Mu hw
   exact OR (by omega) (by omega) (by omega) (by omega) this.2.1
 ·obtain⟨k,hk,e⟩:=List.mem_filterMap.1 hr
  have hk:=nT.1 hk
  unfold zM at e
  split at e
  ·rename_i b hb
   cases e
   have h1:fZ b.ae:=Mx hW s none (by intro b hb;(cases hb)) b hb
   have h2:=ack hs hW s (λ_ h=>h) none (by intro b hb;(cases hb)) b hb
   exact OR (by omega) (by omega) (by omega) (by omega) h1
  ·split at e
   ·rename_i c b hb
    cases e
    have h1:fZ b.ae:=My hW s none (by intro c b hb;(cases hb)) c b hb
    have h2:=acm hs hW s (λ_ h=>h) none (by intro c b hb;(cases hb)) c b hb
    exact OR (by omega) (by omega) (by omega) (by omega) h1
   ·cases e
end Go.Proofs.YtbhplkilhknciaaC

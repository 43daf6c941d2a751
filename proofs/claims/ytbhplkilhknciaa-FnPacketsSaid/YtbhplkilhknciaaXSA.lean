/- What the small functions compute: words, nets, records, stores. Conditions: none. -/
import Derived.Test.YtbhplkilhknciaaXGD
namespace Go.Proofs.YtbhplkilhknciaaC
open Int renaming reduceLE -> aq, reduceLT -> au, reduceEq -> av, reduceGT -> aw, reduceGE -> ax, reduceAdd -> ay, reduceSub -> az, reduceMul -> aA, reduceNeg -> aB
set_option linter.unusedVariables false
set_option linter.unusedSimpArgs false
theorem oT(p:Prop) [Decidable p](x y:Bool):(if p then some [bb x]else some [bb y])=some [bb (if p then x else y)]:=by by_cases h:p<;>simp[h]
def eQ(a lo hi:Int):Bool:=decide (lo<=a)&&decide (a<=hi)
theorem aG{a lo hi:Int}:eQ a lo hi=true↔lo<=a∧a<=hi:=by simp[eQ]
theorem vr(a lo hi:Int):pw [ii a,ii lo,ii hi]=some [bb (eQ a lo hi)]:=by
 rw[aaH];simp(disch:=omega) only[↓pq,↓pj,ps,pz,↓reduceIte,aq,au,av,aw,ax,ay,az,aA,aB,FA,oT];unfold eQ
 by_cases h:a>=lo<;>simp[h]<;>omega
theorem za(a lo hi:Int):tl [ii a,ii lo,ii hi]=some [bb (eQ a lo hi)]:=by
 rw[aac];simp(disch:=omega) only[↓pq,↓pj,ps,pz,↓reduceIte,aq,au,av,aw,ax,ay,az,aA,aB,Fv,oT];unfold eQ
 by_cases h:a>=lo<;>simp[h]<;>omega
def FV(n:Int)(l:dX):Bool:=eQ n 1 6&&eQ l.a 1 n&&eQ l.b 1 n&&decide (l.a<l.b)&&eQ l.cost 1 1000&&eQ l.aj 0 2
def vt(x y:dX):Bool:=decide (x.a<y.a∨x.a=y.a∧(x.b<y.b∨x.b=y.b∧x.aj<y.aj))
def Bo(x y:j5):Bool:=decide (x.key<y.key∨x.key=y.key∧x.owner<y.owner)
def gn{α:Type} [Inhabited α](ok:α->Bool)(lt:α->α->Bool)(l:List α):Bool:=
 ln l.length λi=>ok (gt l i)&&(!decide ((i:Int)>0)||lt (gt l (i-1:Int)) (gt l i))
def IB(n:Int)(t:j5):Bool:=eQ t.owner 1 n&&eQ t.key 1 9&&eQ t.cost 1 1000
def xR(x:Net):Bool:=eQ x.n 1 6&&decide (x.cS.length<=12)&&decide (x.gN.length<=4)&&gn (FV x.n) vt x.cS&&gn (IB x.n) Bo x.gN
def tB(a b ar:Int)(l:dX):Bool:=l.aj==ar&&(l.a==a&&l.b==b||l.a==b&&l.b==a)
theorem acZ{α:Type}(p:α->Bool)(l:List α):(if iz p l<0 then some [ii (-1)]else some [ii (iz p l)])=some [ii (iz p l)]:=by
 have h:=YA p l
 by_cases h':iz p l<0
 ·rw[if_pos h',show iz p l=-1 by omega]
 ·rw[if_neg h']
def FW(ls:List dX)(a b ar:Int):Int:=if iz (tB a b ar) ls<0 then 0 else(gt ls (iz (tB a b ar) ls)).cost
def xS(ok:Int->Int->Bool)(l:List Int):Bool:=
 ln (l.length/2) λk=>ok (gt l (2*k:Int)) (gt l (2*k+1:Int))&&(!decide ((k:Int)>0)||decide (gt l (2*k-2:Int)<gt l (2*k:Int)∨gt l (2*k-2:Int)=gt l (2*k:Int)∧gt l (2*k-1:Int)<gt l (2*k+1:Int)))
def rZ(o:Int)(l:List bA):Bool:=
 ln l.length λi=>eQ (gt l i).to 1 6&& !decide ((gt l i).to=o)&&eQ (gt l i).cost 1 1000&&(!decide ((i:Int)>0)||decide ((gt l (i-1:Int)).to<(gt l i).to))
theorem ac0(t0 t1:T)(o:Int)(t3 t4:T)(l:List bA)(t6 t7:T)(h:l.length<=1048576):HT [t0,t1,ii o,t3,t4,.l (l.map dD),t6,t7]=some [bb (rZ o l)]:=by
 rw[aaM];simp(disch:=omega) only[↓pq,↓pj,ps,pz,↓reduceIte,aq,au,av,aw,ax,ay,az,aA,aB,RT,FB]
 refine(vY l.length (λi=>[bb false,ii i]) (λi=>eQ (gt l i).to 1 6&& !decide ((gt l i).to=o)&&eQ (gt l i).cost 1 1000&&(!decide ((i:Int)>0)||decide ((gt l (i-1:Int)).to<(gt l i).to))) (jQ:=some [bb false]) (jP:=some [bb true]) rfl (mh h) ?_ ?_).trans (oT _ _ _ |>.trans (by unfold rZ;simp))
 ·intro i hi s
  simp(disch:=omega) only[↓pq,↓pj,ps,pz,↓reduceIte,aq,au,av,aw,ax,ay,az,aA,aB,RT,hi,vr]
  grind
 ·intro s
  simp(disch:=omega) only[↓pq,↓pj,ps,pz,↓reduceIte,aq,au,av,aw,ax,ay,az,aA,aB,RT,]
theorem ac1(t0 t1:T)(o:Int)(t3 t4:T)(l:List bA)(t6 t7:T)(h:l.length<=1048576):HM [t0,t1,ii o,t3,t4,.l (l.map dD),t6,t7]=some [bb (rZ o l)]:=by
 rw[aaf];simp(disch:=omega) only[↓pq,↓pj,ps,pz,↓reduceIte,aq,au,av,aw,ax,ay,az,aA,aB,RN,kM_]
 refine(vY l.length (λi=>[bb false,ii i]) (λi=>eQ (gt l i).to 1 6&& !decide ((gt l i).to=o)&&eQ (gt l i).cost 1 1000&&(!decide ((i:Int)>0)||decide ((gt l (i-1:Int)).to<(gt l i).to))) (jQ:=some [bb false]) (jP:=some [bb true]) rfl (mh h) ?_ ?_).trans (oT _ _ _ |>.trans (by unfold rZ;simp))
 ·intro i hi s
  simp(disch:=omega) only[↓pq,↓pj,ps,pz,↓reduceIte,aq,au,av,aw,ax,ay,az,aA,aB,RN,hi,za]
  grind
 ·intro s
  simp(disch:=omega) only[↓pq,↓pj,ps,pz,↓reduceIte,aq,au,av,aw,ax,ay,az,aA,aB,RN,]
def dz(r:ah):Bool:=
 eQ r.owner 1 6&&eQ r.seq 1 100000&&
 if r.kind=1 then eQ r.aj 0 2&&decide (r.key=0)&&rZ r.owner r.aQ&&decide (r.cost=0)&& !r.gM
 else if r.kind=2 then eQ r.aj 0 2&&eQ r.key 1 6&&decide ((r.aQ.length:Int)=0)&&eQ r.cost 0 60000&& !r.gM
 else if r.kind=3 then decide (r.aj=9)&&eQ r.key 1 9&&decide ((r.aQ.length:Int)=0)&&(eQ r.cost 1 1000||decide (r.cost=60000))
 else false
theorem kc_(a k o y s:Int)(l:List bA)(c:Int)(f:Bool)(h:l.length<=1048576):re [ii a,ii k,ii o,ii y,ii s,.l (l.map dD),ii c,bb f]=some [bb (dz ⟨a,k,o,y,s,l,c,f⟩)]:=by
 rw[aaP];simp(disch:=omega) only[↓pq,↓pj,ps,pz,↓reduceIte,aq,au,av,aw,ax,ay,az,aA,aB,jJ_,vr,ac0,oT];unfold dz
 grind
theorem jZ_(a k o y s:Int)(l:List bA)(c:Int)(f:Bool)(h:l.length<=1048576):wb [ii a,ii k,ii o,ii y,ii s,.l (l.map dD),ii c,bb f]=some [bb (dz ⟨a,k,o,y,s,l,c,f⟩)]:=by
 rw[aai];simp(disch:=omega) only[↓pq,↓pj,ps,pz,↓reduceIte,aq,au,av,aw,ax,ay,az,aA,aB,j8_,za,ac1,oT];unfold dz
 grind
def eW(a b:ah):Bool:=decide (a.aj=b.aj)&&(decide (a.kind=b.kind)&&(decide (a.owner=b.owner)&&decide (a.key=b.key)))
theorem sameKey_iff{a b:ah}:eW a b=true↔a.aj=b.aj∧a.kind=b.kind∧a.owner=b.owner∧a.key=b.key:=by simp[eW]
theorem ac4(a k o y:Int)(s:T)(l c f:T)(a' k' o' y':Int)(s' l' c' f':T):HX [ii a,ii k,ii o,ii y,s,l,c,f,ii a',ii k',ii o',ii y',s',l',c',f']=some [bb (eW ⟨a,k,o,y,0,[],0,false⟩ ⟨a',k',o',y',0,[],0,false⟩)]:=by
 rw[aaZ];simp(disch:=omega) only[↓pq,↓pj,ps,pz,↓reduceIte,aq,au,av,aw,ax,ay,az,aA,aB,kF_,oT];unfold eW
 grind
theorem NW(a k o y:Int)(s:T)(l c f:T)(a' k' o' y':Int)(s' l' c' f':T):Bc [ii a,ii k,ii o,ii y,s,l,c,f,ii a',ii k',ii o',ii y',s',l',c',f']=some [bb (eW ⟨a,k,o,y,0,[],0,false⟩ ⟨a',k',o',y',0,[],0,false⟩)]:=by
 rw[Z7];simp(disch:=omega) only[↓pq,↓pj,ps,pz,↓reduceIte,aq,au,av,aw,ax,ay,az,aA,aB,Z5,oT];unfold eW
 grind
def gC(a b:ah):Bool:=decide (a.aj<b.aj∨a.aj=b.aj∧(a.kind<b.kind∨a.kind=b.kind∧(a.owner<b.owner∨a.owner=b.owner∧a.key<b.key)))
theorem tC{a b:ah}:gC a b=true↔a.aj<b.aj∨a.aj=b.aj∧(a.kind<b.kind∨a.kind=b.kind∧(a.owner<b.owner∨a.owner=b.owner∧a.key<b.key)):=by simp[gC]
theorem ac5(a k o y:Int)(s:T)(l c f:T)(a' k' o' y':Int)(s' l' c' f':T):HU [ii a,ii k,ii o,ii y,s,l,c,f,ii a',ii k',ii o',ii y',s',l',c',f']=some [bb (gC ⟨a,k,o,y,0,[],0,false⟩ ⟨a',k',o',y',0,[],0,false⟩)]:=by
 rw[aaR];simp(disch:=omega) only[↓pq,↓pj,ps,pz,↓reduceIte,aq,au,av,aw,ax,ay,az,aA,aB,FC,oT];unfold gC
 grind
theorem FX(a k o y:Int)(s:T)(l c f:T)(a' k' o' y':Int)(s' l' c' f':T):Bd [ii a,ii k,ii o,ii y,s,l,c,f,ii a',ii k',ii o',ii y',s',l',c',f']=some [bb (gC ⟨a,k,o,y,0,[],0,false⟩ ⟨a',k',o',y',0,[],0,false⟩)]:=by
 rw[aak];simp(disch:=omega) only[↓pq,↓pj,ps,pz,↓reduceIte,aq,au,av,aw,ax,ay,az,aA,aB,Fw,oT];unfold gC
 grind
theorem NX(a b:ah):gC ⟨a.aj,a.kind,a.owner,a.key,0,[],0,false⟩ ⟨b.aj,b.kind,b.owner,b.key,0,[],0,false⟩=gC a b:=rfl
def zb(a b:List bA):Bool:=decide (a.length=b.length)&&ln a.length λi=>decide ((gt a i).to=(gt b i).to)&&decide ((gt a i).cost=(gt b i).cost)
def wh(a b:ah):Bool:=eW a b&&decide (a.cost=b.cost)&&(a.gM==b.gM)&&zb a.aQ b.aQ
theorem ac6(a k o y s:Int)(l:List bA)(c:Int)(f:Bool)(a' k' o' y' s':Int)(l':List bA)(c':Int)(f':Bool)(h:l.length<=1048576):HY [ii a,ii k,ii o,ii y,ii s,.l (l.map dD),ii c,bb f,ii a',ii k',ii o',ii y',ii s',.l (l'.map dD),ii c',bb f']=some [bb (wh ⟨a,k,o,y,s,l,c,f⟩ ⟨a',k',o',y',s',l',c',f'⟩)]:=by
 rw[aa2];simp(disch:=omega) only[↓pq,↓pj,ps,pz,↓reduceIte,aq,au,av,aw,ax,ay,az,aA,aB,Ir,jE_,ac4]
 by_cases hl:(l.length:Int)=l'.length
 ·rw[show iter _ _ _=(some [bb (zb l l')]:Option (List T)) from ?_]
  ·rw[show eW ⟨a,k,o,y,0,[],0,false⟩ ⟨a',k',o',y',0,[],0,false⟩=eW ⟨a,k,o,y,s,l,c,f⟩ ⟨a',k',o',y',s',l',c',f'⟩ from rfl]
   simp(disch:=omega) only[↓pq,↓pj,ps,pz,↓reduceIte,aq,au,av,aw,ax,ay,az,aA,aB,Ir,oT,hl];unfold wh;grind
  refine(vY l.length (λi=>[bb false,ii i]) (λi=>decide ((gt l i).to=(gt l' i).to)&&decide ((gt l i).cost=(gt l' i).cost)) (jQ:=some [bb false]) (jP:=some [bb true]) rfl (mh h) ?_ ?_).trans (oT _ _ _ |>.trans (by unfold zb;simp;omega))
  ·intro i hi s
   simp(disch:=omega) only[↓pq,↓pj,ps,pz,↓reduceIte,aq,au,av,aw,ax,ay,az,aA,aB,Ir,hi]
   grind
  ·intro s
   simp(disch:=omega) only[↓pq,↓pj,ps,pz,↓reduceIte,aq,au,av,aw,ax,ay,az,aA,aB,Ir,]
 ·rw[show eW ⟨a,k,o,y,0,[],0,false⟩ ⟨a',k',o',y',0,[],0,false⟩=eW ⟨a,k,o,y,s,l,c,f⟩ ⟨a',k',o',y',s',l',c',f'⟩ from rfl]
  have:zb l l'=false:=by unfold zb;simp;omega
  simp(disch:=omega) only[↓pq,↓pj,ps,pz,↓reduceIte,aq,au,av,aw,ax,ay,az,aA,aB,Ir,oT,hl,not_false_eq_true];unfold wh;grind
theorem ac7(a k o y s:Int)(l:List bA)(c:Int)(f:Bool)(a' k' o' y' s':Int)(l':List bA)(c':Int)(f':Bool)(h:l.length<=1048576):CS [ii a,ii k,ii o,ii y,ii s,.l (l.map dD),ii c,bb f,ii a',ii k',ii o',ii y',ii s',.l (l'.map dD),ii c',bb f']=some [bb (wh ⟨a,k,o,y,s,l,c,f⟩ ⟨a',k',o',y',s',l',c',f'⟩)]:=by
 rw[ab8];simp(disch:=omega) only[↓pq,↓pj,ps,pz,↓reduceIte,aq,au,av,aw,ax,ay,az,aA,aB,Ix,jH_,NW]
 by_cases hl:(l.length:Int)=l'.length
 ·rw[show iter _ _ _=(some [bb (zb l l')]:Option (List T)) from ?_]
  ·rw[show eW ⟨a,k,o,y,0,[],0,false⟩ ⟨a',k',o',y',0,[],0,false⟩=eW ⟨a,k,o,y,s,l,c,f⟩ ⟨a',k',o',y',s',l',c',f'⟩ from rfl]
   simp(disch:=omega) only[↓pq,↓pj,ps,pz,↓reduceIte,aq,au,av,aw,ax,ay,az,aA,aB,Ix,oT,hl];unfold wh;grind
  refine(vY l.length (λi=>[bb false,ii i]) (λi=>decide ((gt l i).to=(gt l' i).to)&&decide ((gt l i).cost=(gt l' i).cost)) (jQ:=some [bb false]) (jP:=some [bb true]) rfl (mh h) ?_ ?_).trans (oT _ _ _ |>.trans (by unfold zb;simp;omega))
  ·intro i hi s
   simp(disch:=omega) only[↓pq,↓pj,ps,pz,↓reduceIte,aq,au,av,aw,ax,ay,az,aA,aB,Ix,hi]
   grind
  ·intro s
   simp(disch:=omega) only[↓pq,↓pj,ps,pz,↓reduceIte,aq,au,av,aw,ax,ay,az,aA,aB,Ix,]
 ·rw[show eW ⟨a,k,o,y,0,[],0,false⟩ ⟨a',k',o',y',0,[],0,false⟩=eW ⟨a,k,o,y,s,l,c,f⟩ ⟨a',k',o',y',s',l',c',f'⟩ from rfl]
  have:zb l l'=false:=by unfold zb;simp;omega
  simp(disch:=omega) only[↓pq,↓pj,ps,pz,↓reduceIte,aq,au,av,aw,ax,ay,az,aA,aB,Ix,oT,hl,not_false_eq_true];unfold wh;grind
def ey(s:List ah):Bool:=decide (s.length<=150)&&gn dz gC s
def cK(s:List ah):Prop:=∀r∈s,r.aQ.length<=1048576
theorem cK.gt{s:List ah}(h:cK s){n:Int}(h0:0<=n)(h1:n<s.length):(Go.Proofs.YtbhplkilhknciaaC.gt s n).aQ.length<=1048576:=h _ (oh h0 h1)
theorem ac8(s:List ah)(h:s.length<=1048576)(hn:cK s):HV [.l (s.map bq)]=some [bb (ey s)]:=by
 rw[aaU];simp(disch:=omega) only[↓pq,↓pj,ps,pz,↓reduceIte,aq,au,av,aw,ax,ay,az,aA,aB,RU,kO_]
 refine(vY s.length (λi=>[bb false,ii i]) (λi=>dz (gt s i)&&(!decide ((i:Int)>0)||gC (gt s (i-1:Int)) (gt s i))) (jQ:=some [bb false]) (jP:=some [bb (decide (s.length<=150))]) rfl (mh h) ?_ ?_).trans (oT _ _ _ |>.trans (by unfold ey gn;grind))
 ·intro i hi s1
  have:=hn.gt (n:=i) (by omega) hi
  simp(disch:=omega) only[↓pq,↓pj,ps,pz,↓reduceIte,aq,au,av,aw,ax,ay,az,aA,aB,RU,hi,kc_,ac5,NX]
  grind
 ·intro s1
  simp(disch:=omega) only[↓pq,↓pj,ps,pz,↓reduceIte,aq,au,av,aw,ax,ay,az,aA,aB,RU,]
  simp;omega
theorem ac9(s:List ah)(h:s.length<=1048576)(hn:cK s):Ie [.l (s.map bq)]=some [bb (ey s)]:=by
 rw[ab5];simp(disch:=omega) only[↓pq,↓pj,ps,pz,↓reduceIte,aq,au,av,aw,ax,ay,az,aA,aB,R2,kL_]
 by_cases h1:s.length<=150
 ·have h2:¬((s.length:Int)>150):=by omega
  simp only[h2,if_false]
  refine(vY s.length (λi=>[bb false,ii i]) (λi=>dz (gt s i)&&(!decide ((i:Int)>0)||gC (gt s (i-1:Int)) (gt s i))) (jQ:=some [bb false]) (jP:=some [bb true]) rfl (mh h) ?_ ?_).trans (oT _ _ _ |>.trans (by unfold ey gn;grind))
  ·intro i hi s1
   have:=hn.gt (n:=i) (by omega) hi
   simp(disch:=omega) only[↓pq,↓pj,ps,pz,↓reduceIte,aq,au,av,aw,ax,ay,az,aA,aB,R2,hi,jZ_,FX,NX]
   grind
  ·intro s1
   simp(disch:=omega) only[↓pq,↓pj,ps,pz,↓reduceIte,aq,au,av,aw,ax,ay,az,aA,aB,R2,]
 ·have h2:((s.length:Int)>150):=by omega
  unfold ey
  simp[h2,h1]
def sC(x:Self):Bool:=xR x.net&&(eQ x.id 1 x.net.n&&(eQ x.j6 0 90&&(decide (x.heard.length%2=0)&&xS (λv a=>decide (0<=iz (tB x.id v a) x.net.cS)) x.heard&&ey x.store)))
def FY(a b:List Int):Bool:=decide ((a.length:Int)=b.length)&&ln a.length λi=>decide (gt a i=gt b i)
theorem ac_{a b:List Int}:FY a b=true↔a=b:=by
 simp only[FY,bd,decide_eq_true_eq,cm]
 constructor
 ·rintro⟨h1,h2⟩
  refine List.ext_getElem (by omega) λi hi hj=>?_
  have:=h2 i hi
  rwa[gL hi,gL hj]at this
 ·rintro rfl
  exact⟨rfl,λ_ _=>rfl⟩
def FZ(c:List Int)(e:nf):List Int:=if e.both=true then c++[e.node,e.aj]else c
def wi(l:List nf):List Int:=l.foldl FZ []
def r7(ls:List dX)(id:Int)(v:Nat)(c:List nf)(a:Nat):List nf:=if 0<=iz (tB id (v+1) a) ls then c++[⟨v+1,a,0,false⟩]else c
def F0(ls:List dX)(id:Int)(c:List nf)(v:Nat):List nf:=(List.range 3).foldl (r7 ls id v) c
def F1(ls:List dX)(id n:Int):List nf:=(List.range n.toNat).foldl (F0 ls id) []
theorem k3_(ls:List dX)(id:Int)(v:Nat)(c:List nf)(a:Nat):(r7 ls id v c a).length<=c.length+1:=by
 unfold r7;split<;>simp
theorem ada(ls:List dX)(id:Int)(c:List nf)(v:Nat):(F0 ls id c v).length<=c.length+3:=by
 unfold F0
 have h1:=k3_ ls id v c 0
 have h2:=k3_ ls id v (r7 ls id v c 0) 1
 have h3:=k3_ ls id v (r7 ls id v (r7 ls id v c 0) 1) 2
 show(r7 ls id v (r7 ls id v (r7 ls id v c 0) 1) 2).length<=_
 omega
def xT(iR e:nf):Bool:=decide (e.node=iR.node)&&(decide (e.aj=iR.aj)&&(eQ e.left 0 3&& !(e.both&&decide (e.left=0))))
def xU(ng iR:List nf):Bool:=decide ((iR.length:Int)=ng.length)&&ln ng.length λi=>xT (gt iR i) (gt ng i)
def CZ(x:Node):Bool:=sC x.self&&(xU x.ng (F1 x.self.net.cS x.self.id x.self.net.n)&&FY (wi x.ng) x.self.heard)
theorem adb(ls:List dX)(id n:Int)(h:n<=6):(F1 ls id n).length<=18:=by
 have:=Nt (l:=List.range n.toNat) (g:=F0 ls id) (c:=[]) (Inv:=λi (c:List nf)=>c.length<=3*i) (by simp) (λi c hi hc=>by have:=ada ls id c (gt (List.range n.toNat) i);omega)
 simp only[List.length_range]at this
 unfold F1
 omega
structure NY (ns:List Node):Prop where
 len:∀n∈ns,n.self.store.length<=1048576
 aQ:∀n∈ns,cK n.self.store
 heard:∀n∈ns,n.self.heard.length<=1048576
theorem IC(a k o y s:Int)(l:List bA)(c:Int)(f:Bool)(h:l.length<=1048576):uk [ii a,ii k,ii o,ii y,ii s,.l (l.map dD),ii c,bb f]=some [ii a,ii k,ii o,ii y,ii s,.l (l.map dD),ii c,bb f]:=by
 rw[aau];simp(disch:=omega) only[↓pq,↓pj,ps,pz,↓reduceIte,aq,au,av,aw,ax,ay,az,aA,aB,kP_]
def oU(ar:Int)(r:ah):Bool:=r.aj==ar||r.aj==9
def scope(s:List ah)(ar:Int):List ah:=s.filter (oU ar)
theorem F2(s:List ah)(ar:Int)(h:s.length<=1048576)(hn:cK s):Be [.l (s.map bq),ii ar]=some [.l ((scope s ar).map bq)]:=by
 rw[aaw];simp(disch:=omega) only[↓pq,↓pj,ps,pz,↓reduceIte,aq,au,av,aw,ax,ay,az,aA,aB,RP,Fz]
 refine(vZ s (λi c=>[.l (c.map bq),ii i]) (λc a=>if oU ar a=true then c++[a]else c) (λc=>some [T.l (c.map bq)]) [] (λi c=>c.length<=i) rfl (mh h) (by simp) ?_ ?_).trans (by rw[YF,List.nil_append,<-scope])
 ·intro i c hi hc
  refine⟨by split<;>(try simp)<;>omega,λk=>?_⟩
  have:=hn.gt (n:=i) (by omega) hi
  simp(disch:=omega) only[↓pq,↓pj,ps,pz,↓reduceIte,aq,au,av,aw,ax,ay,az,aA,aB,RP,hi,IC]
  unfold oU
  grind
 ·intro c k hc
  simp(disch:=omega) only[↓pq,↓pj,ps,pz,↓reduceIte,aq,au,av,aw,ax,ay,az,aA,aB,RP,]
theorem ade(s:List ah)(a k o y:Int)(t4 t5 t6 t7:T)(h:s.length<=1048576):HL [.l (s.map bq),ii a,ii k,ii o,ii y,t4,t5,t6,t7]=some [ii (iz (λx=>eW x ⟨a,k,o,y,0,[],0,false⟩) s)]:=by
 rw[Z9];simp(disch:=omega) only[↓pq,↓pj,ps,pz,↓reduceIte,aq,au,av,aw,ax,ay,az,aA,aB,RM,Fu]
 refine(YE s (λi=>[ii 0,ii i]) (λx=>eW x ⟨a,k,o,y,0,[],0,false⟩) (λi=>some [ii i]) (rX:=some [ii (-1)]) rfl (mh h) ?_ ?_).trans (acZ _ _)
 ·intro i hi q
  simp(disch:=omega) only[↓pq,↓pj,ps,pz,↓reduceIte,aq,au,av,aw,ax,ay,az,aA,aB,RM,hi,NW]
  rfl
 ·intro q
  simp(disch:=omega) only[↓pq,↓pj,ps,pz,↓reduceIte,aq,au,av,aw,ax,ay,az,aA,aB,RM,]
def eU(s:List ah)(r:ah):Int:=iz (λx=>eW x r) s
theorem adf(s:List ah)(r:ah):iz (λx=>eW x ⟨r.aj,r.kind,r.owner,r.key,0,[],0,false⟩) s=eU s r:=rfl
theorem adg(s:List ah)(h:s.length<=1048576)(hn:cK s):H_ [.l (s.map bq)]=some [.l (s.map bq)]:=by
 rw[abV];simp(disch:=omega) only[↓pq,↓pj,ps,pz,↓reduceIte,aq,au,av,aw,ax,ay,az,aA,aB,R1,qj_]
 refine(vZ s (λi c=>[.l (c.map bq),ii i]) (λc a=>c++[id a]) (λc=>some [T.l (c.map bq)]) [] (λi c=>c.length<=i) rfl (mh h) (by simp) ?_ ?_).trans (show some [T.l ((s.foldl (λc a=>c++[id a]) []).map bq)]=some [T.l (s.map bq)] by rw[YD];simp)
 ·intro i c hi hc
  refine⟨by simp;omega,λk=>?_⟩
  have:=hn.gt (n:=i) (by omega) hi
  simp(disch:=omega) only[↓pq,↓pj,ps,pz,↓reduceIte,aq,au,av,aw,ax,ay,az,aA,aB,R1,hi,IC]
  rfl
 ·intro c k hc
  simp(disch:=omega) only[↓pq,↓pj,ps,pz,↓reduceIte,aq,au,av,aw,ax,ay,az,aA,aB,R1,]
def eJ(s:List ah)(r:ah):List ah:=s.filter (λx=>gC x r)++([r]++s.filter (λx=>gC r x))
abbrev lq(s:List ah):Prop:=s.Pairwise λa b=>gC a b=true
theorem NZ{a b c:ah}(h:gC a b=true)(h':gC b c=true):gC a c=true:=by rw[tC]at *;omega
theorem F3(a:ah):gC a a=false:=by
 cases h:gC a a with
 |false=>rfl
 |true=>rw[tC]at h;omega
theorem R7{a b:ah}(h:gC a b=true):gC b a=false:=by
 cases h':gC b a with
 |false=>rfl
 |true=>rw[tC]at *;omega
theorem qt_{a b:ah}(h:gC a b=true):eW a b=false:=by
 cases h':eW a b with
 |false=>rfl
 |true=>rw[tC]at h;rw[sameKey_iff]at h';omega
theorem adi{a b:ah}(h:gC a b=false)(h':eW a b=false):gC b a=true:=by
 have h1:¬(gC a b=true):=by rw[h];decide
 have h2:¬(eW a b=true):=by rw[h'];decide
 rw[tC]at h1⊢
 rw[sameKey_iff]at h2
 omega
theorem adj{s:List ah}(h:gn dz gC s=true):lq s:=by
 have h:=cm.1 h
 rw[lq,List.pairwise_iff_getElem]
 have step:∀i,(hi:i+1<s.length)->gC s[i] s[i+1]=true:=by
  intro i hi
  have:=h (i+1) hi
  simp only[bd,Bool.or_eq_true,Bool.not_eq_true',decide_eq_false_iff_not]at this
  have h2:=this.2.resolve_left (by omega)
  rwa[show(((i+1:Nat):Int)-1)=(i:Int) by omega,gL (by omega),gL hi]at h2
 intro i j hi hj qL
 obtain⟨d,rfl⟩:∃d,j=i+1+d:=⟨j-i-1,by omega⟩
 clear qL
 induction d with
 |zero=>exact step i (by omega)
 |succ d ih=>exact NZ (ih (by omega)) (step (i+1+d) (by omega))
theorem C0{s:List ah}(h:ey s=true):lq s:=by
 simp only[ey,bd]at h;exact adj h.2
theorem R8{s:List ah}(h:lq s)(r:ah):lq (eJ s r):=by
 unfold eJ lq
 rw[List.pairwise_append]
 refine⟨h.filter _,?_,?_⟩
 ·rw[List.pairwise_append]
  refine⟨by simp,h.filter _,?_⟩
  intro a ha b hb
  rw[List.mem_singleton]at ha
  subst ha
  exact(List.mem_filter.1 hb).2
 ·intro a ha b hb
  have ha:=(List.mem_filter.1 ha).2
  rcases List.mem_append.1 hb with hb|hb
  ·rw[List.mem_singleton]at hb
   subst hb;exact ha
  ·exact NZ ha (List.mem_filter.1 hb).2
theorem F4(s:List ah)(r:ah):(eJ s r).length<=s.length+1:=by
 unfold eJ
 have:(s.filter (λx=>gC x r)).length+(s.filter (λx=>gC r x)).length<=s.length:=by
  induction s with
  |nil=>simp
  |cons x s ih=>
   simp only[List.filter_cons]
   cases h:gC x r with
   |true=>simp[R7 h];omega
   |false=>cases h':gC r x<;>simp<;>omega
 simp;omega
theorem zd{s:List ah}{r x:ah}(h:x∈eJ s r):x=r∨x∈s:=by
 unfold eJ at h
 rcases List.mem_append.1 h with h|h
 ·exact .inr (List.mem_filter.1 h).1
 ·rcases List.mem_append.1 h with h|h
  ·exact .inl (List.mem_singleton.1 h)
  ·exact .inr (List.mem_filter.1 h).1
theorem adk{s:List ah}{r:ah}(h:cK s)(hr:r.aQ.length<=1048576):cK (eJ s r):=λx hx=>by
 rcases zd hx with rfl|hx
 ·exact hr
 ·exact h x hx
def an2(s:List ah)(r:ah):Nat:=(s.filter (λx=>gC x r)).length
theorem cK.take{s:List ah}(h:cK s)(n:Nat):cK (s.take n):=λr hr=>h r (List.mem_of_mem_take hr)
theorem cK.drop{s:List ah}(h:cK s)(n:Nat):cK (s.drop n):=λr hr=>h r (List.mem_of_mem_drop hr)
theorem ID{β σ:Type}{F:(σ->Option β)->σ->Option β}{R:Nat}{x:σ}(st:Nat->σ)(n:Nat){out:Option β}(hx:x=st 0)(hR:n<R)(step:∀i:Nat,(i:Int)<(n:Int)->∀s,F s (st i)=s (st (i+1)))(fin:∀s,F s (st n)=out):iter F R x=out:=by
 have:=vY (F:=F) (R:=R) (x:=x) n st (λ_=>true) (jP:=out) (jQ:=out) hx hR (λi hi s=>by simpa using step i hi s) fin
 rw[this];simp
theorem adl(s:List ah)(a k o y q:Int)(l:List bA)(c:Int)(f:Bool)(h:s.length<=1048570)(hn:cK s)(hl:l.length<=1048576):
  HN [.l (s.map bq),ii a,ii k,ii o,ii y,ii q,.l (l.map dD),ii c,bb f]=some [.l ((eJ s ⟨a,k,o,y,q,l,c,f⟩).map bq)]:=by
 obtain⟨r,hr⟩:∃r:ah,r=⟨a,k,o,y,q,l,c,f⟩:=⟨_,rfl⟩
 have hb:∀x:ah,gC ⟨x.aj,x.kind,x.owner,x.key,0,[],0,false⟩ ⟨a,k,o,y,0,[],0,false⟩=gC x r:=λx=>by rw[hr];rfl
 have lF:∀x:ah,gC ⟨a,k,o,y,0,[],0,false⟩ ⟨x.aj,x.kind,x.owner,x.key,0,[],0,false⟩=gC r x:=λx=>by rw[hr];rfl
 rw[aam];simp(disch:=omega) only[↓pq,↓pj,ps,pz,↓reduceIte,aq,au,av,aw,ax,ay,az,aA,aB,Ip,Iq,Fx]
 refine(vZ s (λi c=>[.l (c.map bq),ii i]) (λc x=>if gC x r=true then c++[x]else c) (λd=>some [T.l ((s.foldl (λc x=>if gC r x=true then c++[x]else c) (d++[r])).map bq)]) [] (λi c=>c.length<=i) rfl (mh (by omega)) (by simp) ?_ ?_).trans ?_
 ·intro i c hi hc
  refine⟨by split<;>(try simp)<;>omega,λw=>?_⟩
  have:=hn.gt (n:=i) (by omega) hi
  simp(disch:=omega) only[↓pq,↓pj,ps,pz,↓reduceIte,aq,au,av,aw,ax,ay,az,aA,aB,Ip,Iq,hi,FX,hb]
  split<;>rfl
 ·intro d w hd
  simp(disch:=omega) only[↓pq,↓pj,ps,pz,↓reduceIte,aq,au,av,aw,ax,ay,az,aA,aB,Ip,Iq,]
  rw[<-hr]
  refine vZ s (λi c=>[.l (c.map bq),ii i]) (λc x=>if gC r x=true then c++[x]else c) (λc=>some [T.l (c.map bq)]) (d++[r]) (λi c=>c.length<=d.length+1+i) rfl (mh (by omega)) (by simp) ?_ ?_
  ·intro i c hi hc
   refine⟨by split<;>(try simp)<;>omega,λw=>?_⟩
   have:=hn.gt (n:=i) (by omega) hi
   simp(disch:=omega) only[↓pq,↓pj,ps,pz,↓reduceIte,aq,au,av,aw,ax,ay,az,aA,aB,Ip,Iq,hi,FX,lF]
   split<;>rfl
  ·intro c w hc
   simp(disch:=omega) only[↓pq,↓pj,ps,pz,↓reduceIte,aq,au,av,aw,ax,ay,az,aA,aB,Ip,Iq,]
 ·rw[YF,YF,<-hr]
  unfold eJ
  simp
theorem adn{s:List ah}{r:ah}{n:Nat}(h:s.length+1<=n):(eJ s r).length<=n:=Nat.le_trans (F4 s r) h
def ze:List Int:=[1,2,3,4,5,6]
def mO(l:List Int):Prop:=l.Pairwise (· < ·)∧∀x∈l,1<=x∧x<=6
theorem N0:∀{a b:List Int},a.Pairwise (· < ·)->b.Pairwise (· < ·)->(∀x,x∈a↔x∈b)->a=b
 | [],[],_,_,_=>rfl
 | [],y::b,_,_,h=>absurd ((h y).2 (.head _)) (by simp)
 |x::a,[],_,_,h=>absurd ((h x).1 (.head _)) (by simp)
 |x::a,y::b,ha,hb,h=>by
  have ha':=List.pairwise_cons.1 ha
  have lF:=List.pairwise_cons.1 hb
  have J_:x=y:=by
   rcases List.mem_cons.1 ((h x).1 (.head _))with e|e
   ·exact e
   ·rcases List.mem_cons.1 ((h y).2 (.head _))with e'|e'
    ·exact e'.symm
    ·have:=lF.1 x e;have:=ha'.1 y e';omega
  subst J_
  have:a=b:=N0 ha'.2 lF.2 λz=>by
   constructor
   ·intro hz
    rcases List.mem_cons.1 ((h z).1 (.tail _ hz))with e|e
    ·subst e;have:=ha'.1 z hz;omega
    ·exact e
   ·intro hz
    rcases List.mem_cons.1 ((h z).2 (.tail _ hz))with e|e
    ·subst e;have:=lF.1 z hz;omega
    ·exact e
  rw[this]
def N1(a b:List Int):List Int:=ze.filter λx=>a.contains x||b.contains x
theorem Bp:ze.Pairwise (· < ·):=by unfold ze;simp
theorem N2(a b:List Int):mO (N1 a b):=by
 refine⟨Bp.filter _,λx hx=>?_⟩
 have:=(List.mem_filter.1 hx).1
 simp[ze]at this
 omega
theorem li{x:Int}:x∈ze↔1<=x∧x<=6:=by simp[ze];omega
theorem N3{a b:List Int}{x:Int}:x∈N1 a b↔(1<=x∧x<=6)∧(x∈a∨x∈b):=by
 unfold N1
 rw[List.mem_filter,li]
 simp
theorem adp:mO []:=⟨.nil,by simp⟩
theorem N4{n:Int}(h:1<=n)(h':n<=6):mO [n]:=⟨by simp,by simp;omega⟩
def nv(l:List Way)(to:Int):Int:=iz (λw=>w.to==to) l
def r8(a b:Way):Way:=if b.cost>a.cost then a else if a.cost>b.cost then b else⟨a.to,a.cost,N1 a.cf b.cf⟩
theorem adq{α:Type} [Inhabited α]{enc:α->List T}{l:List α}{i off:Nat}{vs:List T}{x:α}(h:i<l.length)(hx:(enc (gt l i)).take off++vs++(enc (gt l i)).drop (off+vs.length)=enc x):setRow (l.map enc) i off vs=(l.set i x).map enc:=by
 unfold setRow
 refine List.ext_getElem (by simp) λj h1 h2=>?_
 simp only[List.getElem_modify,List.getElem_map,List.getElem_set]
 by_cases hj:i=j
 ·subst hj
  rw[if_pos rfl,if_pos rfl,<-hx,gL h]
 ·rw[if_neg hj,if_neg hj]
theorem N5{α:Type} [Inhabited α]{enc:α->List T}{sc:Bool}{w off m:Nat}{l:List α}{n:Int}{vs:List T}{x:α}(h:0<=n)(h':n<l.length)(hw:∀y,(enc y).length=w)(ho:off+m<=w)(hv:vs.length=m)(hs:(!sc||vs.all cF)=true)
  (hx:(enc (gt l n)).take off++vs++(enc (gt l n)).drop (off+vs.length)=enc x):Prim.ev (.put sc w off m) (.l (l.map enc)::ii n::vs)=some (.l ((l.set n.toNat x).map enc)):=by
 have hn:n.toNat<l.length:=by omega
 have e:n=((n.toNat:Nat):Int):=by omega
 have hg:=jE (enc:=enc) h h'
 rw[e]
 rw[Mx hg (hw _) ho hv hs,Int.toNat_natCast,adq hn (by rw[<-e];exact hx)]
theorem N6{α:Type} [Inhabited α]{l:List α}{i j:Int}{x:α}(h:0<=i)(h':i<l.length)(hj:0<=j):gt (l.set i.toNat x) j=if i=j then x else gt l j:=by
 unfold gt
 simp only[List.getD_eq_getElem?_getD,List.getElem?_set]
 by_cases e:i=j
 ·subst e
  simp[show i.toNat<l.length by omega]
 ·have:¬(i.toNat=j.toNat):=by omega
  simp[e,this]
theorem adr{α:Type} [Inhabited α]{n:Nat}{x:α}{j:Int}(h:0<=j)(h':j<n):gt (List.replicate n x) j=x:=by
 unfold gt
 simp only[List.getD_eq_getElem?_getD]
 rw[List.getElem?_replicate,if_pos (by omega)]
 rfl
def mP(s:List ah)(ar v:Int):Int:=iz (λx=>eW x ⟨ar,1,v,0,0,[],0,false⟩) s
def C1(s:List ah)(ar v:Int):List bA:=if mP s ar v<0 then []else(gt s (mP s ar v)).aQ
def F5(l:List bA)(b:Int):Int:=if iz (λ(x:bA)=>x.to==b) l<0 then 0 else(gt l (iz (λ(x:bA)=>x.to==b) l)).cost
def C2(s:List ah)(ar a b:Int):Int:=F5 (C1 s ar a) b
def ej(s:List ah)(ar a b:Int):Int:=if C2 s ar b a=0 then 0 else C2 s ar a b
theorem Bq(s:List ah)(ar v:Int):mP s ar v<s.length:=CR _ _
theorem Br{s:List ah}(h:ey s=true){r:ah}(hr:r∈s):dz r=true:=by
 simp only[ey,bd]at h
 obtain⟨i,hi,rfl⟩:=List.mem_iff_getElem.1 hr
 have:=cm.1 h.2 i hi
 simp only[bd]at this
 rw[<-gL hi]
 exact this.1
theorem R9{o:Int}{l:List bA}(h:rZ o l=true){x:bA}(hx:x∈l):(1<=x.to∧x.to<=6)∧x.to≠o∧(1<=x.cost∧x.cost<=1000):=by
 obtain⟨i,hi,rfl⟩:=List.mem_iff_getElem.1 hx
 have:=cm.1 h i hi
 simp only[bd,aG,Bool.not_eq_true',decide_eq_false_iff_not]at this
 rw[<-gL hi]
 exact⟨this.1.1.1,this.1.1.2,this.1.2⟩
theorem ads{o:Int}{l:List bA}(h:rZ o l=true):l.Pairwise λa b=>a.to<b.to:=by
 have h:=cm.1 h
 rw[List.pairwise_iff_getElem]
 have step:∀i,(hi:i+1<l.length)->l[i].to<l[i+1].to:=by
  intro i hi
  have:=h (i+1) hi
  simp only[bd,Bool.or_eq_true,Bool.not_eq_true',decide_eq_false_iff_not,decide_eq_true_eq]at this
  have h2:=this.2.resolve_left (by omega)
  rwa[show(((i+1:Nat):Int)-1)=(i:Int) by omega,gL (by omega),gL hi]at h2
 intro i j hi hj qL
 obtain⟨d,rfl⟩:∃d,j=i+1+d:=⟨j-i-1,by omega⟩
 clear qL
 induction d with
 |zero=>exact step i (by omega)
 |succ d ih=>exact Int.lt_trans (ih (by omega)) (step (i+1+d) (by omega))
theorem N7{s:List ah}(h:ey s=true)(ar v:Int):rZ v (C1 s ar v)=true:=by
 unfold C1
 by_cases hk:mP s ar v<0
 ·rw[if_pos hk];simp[rZ,ln]
 ·rw[if_neg hk]
  have hm:=oh (l:=s) (n:=mP s ar v) (by omega) (Bq s ar v)
  have hr:=Br h hm
  have hs:=yX (λx=>eW x ⟨ar,1,v,0,0,[],0,false⟩) s (by unfold mP at hk;omega)
  rw[<-mP]at hs
  rw[sameKey_iff]at hs
  obtain⟨_,h2,h3,_⟩:=hs
  simp only at h2 h3
  unfold dz at hr
  rw[h2]at hr
  simp only[if_true,bd]at hr
  have hq:=hr.2.1.1.2
  rw[h3]at hq
  exact hq
theorem adt{l:List bA}{b:Int}(h:∀x∈l,x.to≠b):F5 l b=0:=by
 unfold F5
 rw[if_pos]
 rw[Ns]
 intro x hx
 simp[h x hx]
theorem adu{l:List bA}{b:Int}(h:F5 l b≠0):∃x∈l,x.to=b∧x.cost=F5 l b:=by
 unfold F5 at h⊢
 split at h
 ·exact absurd rfl h
 ·rename_i hf
  rw[if_neg hf]
  have hs:=yX (λ(y:bA)=>y.to==b) l (by omega)
  simp only[beq_iff_eq]at hs
  exact⟨_,oh (by omega) (CR _ _),hs,rfl⟩
theorem adv{s:List ah}(h:ey s=true)(ar a b:Int):0<=C2 s ar a b∧C2 s ar a b<=1000:=by
 unfold C2
 by_cases h0:F5 (C1 s ar a) b=0
 ·rw[h0];omega
 ·obtain⟨x,hx,_,h2⟩:=adu h0
  have:=R9 (N7 h ar a) hx
  omega
theorem IE{s:List ah}(h:ey s=true)(ar a b:Int):0<=ej s ar a b∧ej s ar a b<=1000:=by
 unfold ej
 split
 ·omega
 ·exact adv h ar a b
def F6(W:List Way)(D:List Int)(b:Int)(i:Nat):Int:=
 if¬((gt W ((i:Int)+1)).to=0)∧D.contains ((i:Int)+1)=false∧(b=0∨(gt W ((i:Int)+1)).cost<(gt W b).cost)then(i:Int)+1 else b
def gp(W:List Way)(D:List Int):Int:=(List.range 6).foldl (F6 W D) 0
def qM(s:List ah)(ar fr dk:Int)(W:List Way)(i:Nat):List Way:=
 if ej s ar dk ((i:Int)+1)=0∨(i:Int)+1=fr then W
 else if(gt W ((i:Int)+1)).to=0∨(gt W dk).cost+ej s ar dk ((i:Int)+1)<(gt W ((i:Int)+1)).cost then
  W.set (i+1) ⟨(i:Int)+1,(gt W dk).cost+ej s ar dk ((i:Int)+1),if dk=fr then [(i:Int)+1]else(gt W dk).cf⟩
 else if(gt W dk).cost+ej s ar dk ((i:Int)+1)=(gt W ((i:Int)+1)).cost then
  W.set (i+1) (r8 (gt W ((i:Int)+1)) ⟨(i:Int)+1,(gt W dk).cost+ej s ar dk ((i:Int)+1),if dk=fr then [(i:Int)+1]else(gt W dk).cf⟩)
 else W
def r9(s:List ah)(ar fr dk:Int)(W:List Way):List Way:=(List.range 6).foldl (qM s ar fr dk) W
def xV(s:List ah)(ar fr:Int):Nat->List Way->List Int->List Way
 |0,W,_=>W
 |k+1,W,D=>if gp W D=0 then W else xV s ar fr k (r9 s ar fr (gp W D) W) (D++[gp W D])
def F7:Way:=⟨0,0,[]⟩
def W0(fr:Int):List Way:=(List.replicate 7 F7).set fr.toNat ⟨fr,0,[]⟩
def F8(W:List Way):List Way:=W.filter λw=>!(w.to==0)
def cZ(s:List ah)(ar fr:Int):List Way:=if ey s=true∧eQ fr 1 6=true∧0<=mP s ar fr then F8 (xV s ar fr 6 (W0 fr) [])else []
structure nT (W:List Way) (c:Int):Prop where
 len:W.length=7
 cf:∀v:Int,0<=v->v<7->mO (gt W v).cf
 cost:∀v:Int,0<=v->v<7->0<=(gt W v).cost∧(gt W v).cost<=c
 to:∀v:Int,0<=v->v<7->(gt W v).to=0∨(gt W v).to=v
theorem nT.mono{W:List Way}{c c':Int}(h:nT W c)(hc:c<=c'):nT W c':=⟨h.len,h.cf,λv h1 h2=>by have:=h.cost v h1 h2;omega,h.to⟩
theorem uq{W:List Way}{i:Nat}{w:Way}{v:Int}(hl:W.length=7)(hi:i<6)(h0:0<=v):gt (W.set (i+1) w) v=if v=(i:Int)+1 then w else gt W v:=by
 have:=N6 (l:=W) (i:=(i:Int)+1) (j:=v) (x:=w) (by omega) (by omega) h0
 rw[show((i:Int)+1).toNat=i+1 by omega]at this
 rw[this]
 exact A' ⟨λh=>h.symm,λh=>h.symm⟩ _ _
theorem adw{a b:Way}(ha:mO a.cf)(hb:mO b.cf):mO (r8 a b).cf:=by
 unfold r8
 split
 ·exact ha
 ·split
  ·exact hb
  ·exact N2 _ _
theorem IF(a b:Way):(r8 a b).cost=a.cost∨(r8 a b).cost=b.cost:=by
 unfold r8
 split
 ·exact .inl rfl
 ·split
  ·exact .inr rfl
  ·exact .inl rfl
theorem xW{a b:Way}{n:Int}(ha:a.to=n)(hb:b.to=n):(r8 a b).to=n:=by
 unfold r8
 split
 ·exact ha
 ·split
  ·exact hb
  ·exact ha
theorem F9{s:List ah}(hs:ey s=true)(ar a:Int):ej s ar a a=0:=by
 have:C2 s ar a a=0:=by
  unfold C2
  refine adt λx hx=>?_
  exact(R9 (N7 hs ar a) hx).2.1
 unfold ej
 rw[this];rfl
theorem N8{s:List ah}(hs:ey s=true)(ar fr:Int){dk:Int}(ha:1<=dk∧dk<=6){W:List Way}{c:Int}(hc:0<=c)(h:nT W (c+1000))(aS:(gt W dk).cost<=c){i:Nat}(hi:i<6):
  nT (qM s ar fr dk W i) (c+1000)∧gt (qM s ar fr dk W i) dk=gt W dk:=by
 have hb:=IE hs ar dk ((i:Int)+1)
 have hz:=h.cost dk (by omega) (by omega)
 have ho:=h.cost ((i:Int)+1) (by omega) (by omega)
 have EO:=h.cf ((i:Int)+1) (by omega) (by omega)
 have iT:mO (if dk=fr then [(i:Int)+1]else(gt W dk).cf):=by
  split
  ·exact N4 (by omega) (by omega)
  ·exact h.cf dk (by omega) (by omega)
 have z7:∀w:Way,w.to=(i:Int)+1->mO w.cf->0<=w.cost->w.cost<=c+1000->¬(ej s ar dk ((i:Int)+1)=0)->nT (W.set (i+1) w) (c+1000)∧gt (W.set (i+1) w) dk=gt W dk:=by
  intro w h1 h2 h3 h4 h5
  have cW:¬(dk=(i:Int)+1):=by intro e;rw[<-e,F9 hs]at h5;exact h5 rfl
  refine⟨⟨by simp[h.len],λv h6 h7=>?_,λv h6 h7=>?_,λv h6 h7=>?_⟩,?_⟩
  ·rw[uq h.len hi h6];split
   ·exact h2
   ·exact h.cf v h6 h7
  ·rw[uq h.len hi h6];split
   ·exact⟨h3,h4⟩
   ·exact h.cost v h6 h7
  ·rw[uq h.len hi h6];split
   ·rename_i e;rw[e,h1];exact .inr rfl
   ·exact h.to v h6 h7
  ·rw[uq h.len hi (by omega),if_neg cW]
 unfold qM
 by_cases h1:ej s ar dk ((i:Int)+1)=0∨(i:Int)+1=fr
 ·rw[if_pos h1];exact⟨h,rfl⟩
 rw[if_neg h1]
 by_cases h2:(gt W ((i:Int)+1)).to=0∨(gt W dk).cost+ej s ar dk ((i:Int)+1)<(gt W ((i:Int)+1)).cost
 ·rw[if_pos h2]
  exact z7 _ rfl iT (by show 0<=(gt W dk).cost+_;omega) (by show(gt W dk).cost+_<=_;omega) (λe=>h1 (.inl e))
 rw[if_neg h2]
 by_cases h3:(gt W dk).cost+ej s ar dk ((i:Int)+1)=(gt W ((i:Int)+1)).cost
 ·rw[if_pos h3]
  have pS:=(h.to ((i:Int)+1) (by omega) (by omega)).resolve_left (λe=>h2 (.inl e))
  have htc:(r8 (gt W ((i:Int)+1)) ⟨(i:Int)+1,(gt W dk).cost+ej s ar dk ((i:Int)+1),if dk=fr then [(i:Int)+1]else(gt W dk).cf⟩).cost=(gt W ((i:Int)+1)).cost:=by
   rcases IF (gt W ((i:Int)+1)) ⟨(i:Int)+1,(gt W dk).cost+ej s ar dk ((i:Int)+1),if dk=fr then [(i:Int)+1]else(gt W dk).cf⟩with e|e
   ·exact e
   ·rw[e];exact h3
  exact z7 _ (xW pS rfl) (adw EO iT) (by rw[htc];omega) (by rw[htc];omega) (λe=>h1 (.inl e))
 ·rw[if_neg h3];exact⟨h,rfl⟩
theorem adx{s:List ah}(hs:ey s=true)(ar fr:Int){dk:Int}(ha:1<=dk∧dk<=6){W:List Way}{c:Int}(hc:0<=c)(h:nT W c):nT (r9 s ar fr dk W) (c+1000)∧gt (r9 s ar fr dk W) dk=gt W dk:=by
 have hl:(List.range 6).length=6:=List.length_range
 exact Nt (l:=List.range 6) (g:=qM s ar fr dk) (c:=W) (Inv:=λ_ W'=>nT W' (c+1000)∧gt W' dk=gt W dk) ⟨h.mono (by omega),rfl⟩ λi W' hi ⟨h1,h2⟩=>by
  rw[hl]at hi
  rw[gL (by rw[hl];omega),List.getElem_range]
  obtain⟨h3,h4⟩:=N8 hs ar fr ha hc h1 (by rw[h2];exact(h.cost dk (by omega) (by omega)).2) (show i<6 by omega)
  exact⟨h3,h4.trans h2⟩
theorem N9(W:List Way)(D:List Int):(gp W D=0∧∀u:Int,1<=u->u<=6->(gt W u).to≠0->u∈D)∨
  ((1<=gp W D∧gp W D<=6)∧(gt W (gp W D)).to≠0∧gp W D∉D∧∀u:Int,1<=u->u<=6->(gt W u).to≠0->u∉D->(gt W (gp W D)).cost<=(gt W u).cost):=by
 have hl:(List.range 6).length=6:=List.length_range
 have key:=Nt (l:=List.range 6) (g:=F6 W D) (c:=0) (Inv:=λi b=>(b=0∧∀u:Int,1<=u->u<=i->(gt W u).to≠0->u∈D)∨
  ((1<=b∧b<=i)∧(gt W b).to≠0∧b∉D∧∀u:Int,1<=u->u<=i->(gt W u).to≠0->u∉D->(gt W b).cost<=(gt W u).cost)) (.inl ⟨rfl,λu h1 h2=>by omega⟩) λi b hi hb=>by
   rw[hl]at hi
   rw[gL (by rw[hl];omega),List.getElem_range]
   unfold F6
   have hD:∀x:Int,D.contains x=false↔x∉D:=λx=>by rw[<-Bool.not_eq_true,List.contains_iff_mem]
   by_cases hc:¬((gt W ((i:Int)+1)).to=0)∧D.contains ((i:Int)+1)=false∧(b=0∨(gt W ((i:Int)+1)).cost<(gt W b).cost)
   ·rw[if_pos hc]
    refine .inr ⟨by omega,hc.1,(hD _).1 hc.2.1,λu h1 h2 h3 h4=>?_⟩
    by_cases hu:u=(i:Int)+1
    ·rw[hu];exact Int.le_refl _
    ·rcases hb with⟨hb,mq⟩|⟨po,mq,hb3,hb4⟩
     ·exact absurd (mq u h1 (by omega) h3) h4
     ·have:=hb4 u h1 (by omega) h3 h4
      rcases hc.2.2 with h5|h5
      ·omega
      ·omega
   ·rw[if_neg hc]
    rcases hb with⟨hb,mq⟩|⟨po,mq,hb3,hb4⟩
    ·refine .inl ⟨hb,λu h1 h2 h3=>?_⟩
     by_cases hu:u=(i:Int)+1
     ·subst hu
      by_cases hm:(i:Int)+1∈D
      ·exact hm
      ·exact absurd ⟨h3,(hD _).2 hm,.inl hb⟩ hc
     ·exact mq u h1 (by omega) h3
    ·refine .inr ⟨by omega,mq,hb3,λu h1 h2 h3 h4=>?_⟩
     by_cases hu:u=(i:Int)+1
     ·subst hu
      have:¬((gt W ((i:Int)+1)).cost<(gt W b).cost):=λh5=>hc ⟨h3,(hD _).2 h4,.inr h5⟩
      omega
     ·exact hb4 u h1 (by omega) h3 h4
 rw[hl]at key
 exact key
structure nU (fr:Int) (W:List Way) (D:List Int):Prop where
 ok:nT W (1000*D.length)
 R_:1<=fr∧fr<=6
 nd:D.Nodup
 mem:∀v∈D,(1<=v∧v<=6)∧(gt W v).to≠0
 mono:∀v∈D,∀u:Int,1<=u->u<=6->u∉D->(gt W u).to≠0->(gt W v).cost<=(gt W u).cost
 first:(D=[]∧∀u:Int,1<=u->u<=6->(gt W u).to≠0->u=fr)∨fr∈D
theorem adz{D l:List Int}(hn:D.Nodup)(hm:∀v∈D,v∈l):D.length<=l.length:=by
 induction D generalizing l with
 |nil=>simp
 |cons x D ih=>
  have hx:=List.nodup_cons.1 hn
  have hl:=List.length_erase_of_mem (hm x (.head _))
  have hp:0<l.length:=List.length_pos_of_mem (hm x (.head _))
  have:=ih (l:=l.erase x) hx.2 λv hv=>(List.mem_erase_of_ne (show v≠x fromλe=>hx.1 (e▸hv))).2 (hm v (.tail _ hv))
  simp only[List.length_cons];omega
theorem adA{D:List Int}(hn:D.Nodup)(hm:∀v∈D,1<=v∧v<=6):D.length<=6:=
 adz (l:=ze) hn λv hv=>li.2 (hm v hv)
theorem vu{fr:Int}(h:1<=fr∧fr<=6){v:Int}(h0:0<=v)(h7:v<7):gt (W0 fr) v=if fr=v then⟨fr,0,[]⟩else F7:=by
 unfold W0
 rw[N6 (by omega) (by simp;omega) h0]
 split
 ·rfl
 ·exact adr h0 (by omega)
theorem nU.start{fr:Int}(h:1<=fr∧fr<=6):nU fr (W0 fr) []:=by
 refine⟨⟨by simp[W0],λv h0 h7=>?_,λv h0 h7=>?_,λv h0 h7=>?_⟩,h,.nil,by simp,by simp,.inl ⟨rfl,λu h1 h2 h3=>?_⟩⟩
 ·rw[vu h h0 h7];split<;>exact adp
 ·rw[vu h h0 h7];split<;>simp[F7]
 ·rw[vu h h0 h7];split
  ·rename_i e;exact .inr e
  ·exact .inl rfl
 ·rw[vu h (by omega) (by omega)]at h3
  split at h3
  ·rename_i e;exact e.symm
  ·exact absurd rfl h3
theorem adB{s:List ah}(hs:ey s=true)(ar fr:Int){dk:Int}(ha:1<=dk∧dk<=6){W:List Way}{c:Int}(hc:0<=c)(h:nT W c){v:Int}(hv:1<=v∧v<=6):
  gt (r9 s ar fr dk W) v=gt W v∨((gt (r9 s ar fr dk W) v).to=v∧v≠fr∧¬(ej s ar dk v=0)∧((gt W v).to=0∨(gt W dk).cost+ej s ar dk v<=(gt W v).cost)∧(gt (r9 s ar fr dk W) v).cost=(gt W dk).cost+ej s ar dk v):=by
 have hl:(List.range 6).length=6:=List.length_range
 have key:=Nt (l:=List.range 6) (g:=qM s ar fr dk) (c:=W) (Inv:=λi W'=>nT W' (c+1000)∧gt W' dk=gt W dk∧(∀u:Int,(i:Int)<u->u<=6->gt W' u=gt W u)∧∀u:Int,1<=u->u<=i->gt W' u=gt W u∨((gt W' u).to=u∧u≠fr∧¬(ej s ar dk u=0)∧((gt W u).to=0∨(gt W dk).cost+ej s ar dk u<=(gt W u).cost)∧(gt W' u).cost=(gt W dk).cost+ej s ar dk u))
  ⟨h.mono (by omega),rfl,λu _ _=>rfl,λu h1 h2=>by omega⟩ λi W' hi ⟨h1,h2,h3,h4⟩=>by
  rw[hl]at hi
  rw[gL (by rw[hl];omega),List.getElem_range]
  have wj:i<6:=by omega
  obtain⟨h5,h6⟩:=N8 hs ar fr ha hc h1 (by rw[h2];exact(h.cost dk (by omega) (by omega)).2) wj
  refine⟨h5,h6.trans h2,λu h7 h8=>?_,λu h7 h8=>?_⟩
  ·rw[<-h3 u (by omega) h8]
   unfold qM
   split
   ·rfl
   ·split
    ·rw[uq h1.len wj (by omega),if_neg (by omega)]
    ·split
     ·rw[uq h1.len wj (by omega),if_neg (by omega)]
     ·rfl
  ·by_cases hu:u=(i:Int)+1
   ·subst hu
    have hold:=h3 ((i:Int)+1) (by omega) (by omega)
    unfold qM
    rw[hold,h2]
    by_cases q1:ej s ar dk ((i:Int)+1)=0∨(i:Int)+1=fr
    ·rw[if_pos q1];exact .inl hold
    rw[if_neg q1]
    by_cases q2:(gt W ((i:Int)+1)).to=0∨(gt W dk).cost+ej s ar dk ((i:Int)+1)<(gt W ((i:Int)+1)).cost
    ·rw[if_pos q2,uq h1.len wj (by omega),if_pos rfl]
     exact .inr ⟨rfl,λe=>q1 (.inr e),λe=>q1 (.inl e),q2.imp_right (λe=>by omega),rfl⟩
    rw[if_neg q2]
    by_cases q3:(gt W dk).cost+ej s ar dk ((i:Int)+1)=(gt W ((i:Int)+1)).cost
    ·rw[if_pos q3,uq h1.len wj (by omega),if_pos rfl]
     have pS:=(h.to ((i:Int)+1) (by omega) (by omega)).resolve_left (λe=>q2 (.inl e))
     refine .inr ⟨xW pS rfl,λe=>q1 (.inr e),λe=>q1 (.inl e),.inr (by omega),?_⟩
     ·rcases IF (gt W ((i:Int)+1)) ⟨(i:Int)+1,(gt W dk).cost+ej s ar dk ((i:Int)+1),if dk=fr then [(i:Int)+1]else(gt W dk).cf⟩with e|e
      ·rw[e];omega
      ·rw[e]
    ·rw[if_neg q3];exact .inl hold
   ·have hk:gt (qM s ar fr dk W' i) u=gt W' u:=by
     unfold qM
     split
     ·rfl
     ·split
      ·rw[uq h1.len wj (by omega),if_neg hu]
      ·split
       ·rw[uq h1.len wj (by omega),if_neg hu]
       ·rfl
    rw[hk]
    exact h4 u h7 (by omega)
 rw[hl]at key
 exact key.2.2.2 v hv.1 hv.2
theorem nU.step{s:List ah}(hs:ey s=true)(ar:Int){fr:Int}{W:List Way}{D:List Int}(h:nU fr W D)(hb:gp W D≠0):nU fr (r9 s ar fr (gp W D) W) (D++[gp W D]):=by
 obtain⟨h1,h2,h3,h4⟩:=(N9 W D).resolve_left λe=>hb e.1
 have hc:(0:Int)<=1000*D.length:=by omega
 obtain⟨g1,g2⟩:=adx hs ar fr h1 hc h.ok
 have sV:=λv hv=>adB hs ar fr h1 hc h.ok (v:=v) hv
 have hold:∀v∈D,gt (r9 s ar fr (gp W D) W) v=gt W v:=by
  intro v hv
  rcases sV v (h.mem v hv).1 with e|⟨_,_,e1,e2,_⟩
  ·exact e
  ·have hm:=h.mono v hv _ h1.1 h1.2 h3 h2
   have hk:=IE hs ar (gp W D) v
   rcases e2 with e2|e2
   ·exact absurd e2 (h.mem v hv).2
   ·omega
 refine⟨?_,h.R_,?_,λv hv=>?_,λv hv u Hf vQ SX hu4=>?_,?_⟩
 ·refine g1.mono ?_
  simp only[List.length_append,List.length_singleton,Nq,Nr];omega
 ·rw[List.nodup_append]
  exact⟨h.nd,by simp,by intro a ha b lF;rw[List.mem_singleton]at lF;subst lF;intro e;exact h3 (e▸ha)⟩
 ·rcases List.mem_append.1 hv with hv|hv
  ·rw[hold v hv];exact h.mem v hv
  ·rw[List.mem_singleton]at hv
   subst hv
   rw[g2];exact⟨h1,h2⟩
 ·have adC:u∉D∧u≠gp W D:=by simpa using SX
  have zf:(gt (r9 s ar fr (gp W D) W) v).cost<=(gt W (gp W D)).cost:=by
   rcases List.mem_append.1 hv with hv|hv
   ·rw[hold v hv];exact h.mono v hv _ h1.1 h1.2 h3 h2
   ·rw[List.mem_singleton]at hv;subst hv;rw[g2];exact Int.le_refl _
  rcases sV u ⟨Hf,vQ⟩with e|⟨_,_,_,_,e⟩
  ·rw[e]at hu4⊢
   have:=h4 u Hf vQ hu4 adC.1
   omega
  ·have hk:=IE hs ar (gp W D) u
   omega
 ·right
  rcases h.first with⟨e,hf⟩|hf
  ·rw[hf _ h1.1 h1.2 h2];simp
  ·simp[hf]
theorem nU.len{fr:Int}{W:List Way}{D:List Int}(h:nU fr W D):D.length<=6:=adA h.nd λv hv=>(h.mem v hv).1
theorem adD(W:List Way):(F8 W).length<=W.length:=List.length_filter_le _ _
def N_(o:Option Way)(w:Way):Option Way:=match o with|none=>some w|some b=>some (r8 b w)
def tD(l:List Way):Option Way:=l.foldl N_ none
theorem adE(l:List Way)(w:Way):tD (l++[w])=N_ (tD l) w:=by simp[tD]
def F_(l:List Way)(b:Way):Prop:=mO b.cf∧(∃x∈l,x.cost=b.cost)∧(∀x∈l,b.cost<=x.cost)∧∀h,h∈b.cf↔∃x∈l,x.cost=b.cost∧h∈x.cf
theorem adF{l:List Way}{b w:Way}(hl:∀x∈l,mO x.cf)(hw:mO w.cf)(h:F_ l b):F_ (l++[w]) (r8 b w):=by
 obtain⟨h1,⟨x0,su,Cz⟩,h3,h4⟩:=h
 unfold r8
 by_cases q1:w.cost>b.cost
 ·rw[if_pos q1]
  refine⟨h1,⟨x0,by simp[su],Cz⟩,λx hx=>?_,λh=>?_⟩
  ·rcases List.mem_append.1 hx with hx|hx
   ·exact h3 x hx
   ·rw[List.mem_singleton]at hx;subst hx;omega
  ·rw[h4]
   constructor
   ·rintro⟨x,hx,e1,e2⟩;exact⟨x,by simp[hx],e1,e2⟩
   ·rintro⟨x,hx,e1,e2⟩
    rcases List.mem_append.1 hx with hx|hx
    ·exact⟨x,hx,e1,e2⟩
    ·rw[List.mem_singleton]at hx;subst hx;omega
 rw[if_neg q1]
 by_cases q2:b.cost>w.cost
 ·rw[if_pos q2]
  refine⟨hw,⟨w,by simp,rfl⟩,λx hx=>?_,λh=>?_⟩
  ·rcases List.mem_append.1 hx with hx|hx
   ·have:=h3 x hx;omega
   ·rw[List.mem_singleton]at hx;subst hx;omega
  ·constructor
   ·intro hh;exact⟨w,by simp,rfl,hh⟩
   ·rintro⟨x,hx,e1,e2⟩
    rcases List.mem_append.1 hx with hx|hx
    ·have:=h3 x hx;omega
    ·rw[List.mem_singleton]at hx;subst hx;exact e2
 rw[if_neg q2]
 have he:w.cost=b.cost:=by omega
 refine⟨N2 _ _,⟨x0,by simp[su],Cz⟩,λx hx=>?_,λh=>?_⟩
 ·rcases List.mem_append.1 hx with hx|hx
  ·exact h3 x hx
  ·rw[List.mem_singleton]at hx;subst hx;show b.cost<=_;omega
 ·show h∈N1 b.cf w.cf↔_
  rw[N3]
  constructor
  ·rintro⟨_,hh|hh⟩
   ·obtain⟨x,hx,e1,e2⟩:=(h4 h).1 hh
    exact⟨x,by simp[hx],e1,e2⟩
   ·exact⟨w,by simp,he,hh⟩
  ·rintro⟨x,hx,e1,e2⟩
   rcases List.mem_append.1 hx with hx|hx
   ·exact⟨(hl x hx).2 h e2,.inl ((h4 h).2 ⟨x,hx,e1,e2⟩)⟩
   ·rw[List.mem_singleton]at hx;subst hx
    exact⟨hw.2 h e2,.inr e2⟩
theorem Ga{v:Int}:∀(n:Nat) (l:List Way),l.length=n->(∀x∈l,x.to=v∧mO x.cf)->(l=[]∧tD l=none)∨∃b,tD l=some b∧b.to=v∧F_ l b:=by
 intro n
 induction n with
 |zero=>intro l hl _;exact .inl ⟨List.eq_nil_of_length_eq_zero hl,by rw[List.eq_nil_of_length_eq_zero hl];rfl⟩
 |succ n ih=>
  intro l hl hx
  right
  obtain⟨l',w,rfl⟩:∃l' w,l=l'++[w]:=⟨l.dropLast,l.getLast (by intro e;subst e;simp at hl),(List.dropLast_concat_getLast _).symm⟩
  have hw:=hx w (by simp)
  rw[adE]
  rcases ih l' (by simpa using hl) (λx h=>hx x (by simp[h]))with⟨rfl,e⟩|⟨b,e,hb,hB⟩
  ·rw[e]
   exact⟨w,rfl,hw.1,hw.2,⟨w,by simp,rfl⟩,by simp,λh=>by simp⟩
  ·rw[e]
   exact⟨r8 b w,rfl,xW hb hw.1,adF (λx h=>(hx x (by simp[h])).2) hw.2 hB⟩
def xX(C:List Way):List Way:=ze.filterMap λv=>tD (C.filter λw=>w.to==v)
theorem Oa{C:List Way}(hC:∀x∈C,mO x.cf){x:Way}:x∈xX C↔(1<=x.to∧x.to<=6)∧tD (C.filter λw=>w.to==x.to)=some x:=by
 unfold xX
 rw[List.mem_filterMap]
 constructor
 ·rintro⟨v,hv,e⟩
  have hv:=li.1 hv
  rcases Ga (v:=v) _ (C.filter λw=>w.to==v) rfl (λy hy=>by have:=List.mem_filter.1 hy;exact⟨by simpa using this.2,hC y this.1⟩)with⟨_,e1⟩|⟨b,e1,hb,_⟩
  ·rw[e1]at e;cases e
  ·rw[e1]at e;cases e
   subst hb
   exact⟨hv,e1⟩
 ·rintro⟨h1,h2⟩
  exact⟨x.to,li.2 h1,h2⟩
theorem Ob{C:List Way}(hC:∀x∈C,mO x.cf){x:Way}(hx:x∈xX C):mO x.cf∧∃y∈C,y.to=x.to∧y.cost=x.cost:=by
 have hm:=(Oa hC).1 hx
 rcases Ga (v:=x.to) _ (C.filter λw=>w.to==x.to) rfl (λy hy=>by have:=List.mem_filter.1 hy;exact⟨by simpa using this.2,hC y this.1⟩)with⟨_,e1⟩|⟨b,e1,hb,B⟩
 ·rw[e1]at hm;cases hm.2
 ·rw[e1]at hm;cases hm.2
  obtain⟨y,hy,e⟩:=B.2.1
  have:=List.mem_filter.1 hy
  exact⟨B.1,y,this.1,by simpa using this.2,e⟩
theorem Gb{s:List ah}(hs:ey s=true)(ar fr:Int):∀k W D,nU fr W D->∃D',nU fr (xV s ar fr k W D) D'
 |0,W,D,h=>⟨D,h⟩
 |k+1,W,D,h=>by
  unfold xV
  by_cases hb:gp W D=0
  ·rw[if_pos hb];exact⟨D,h⟩
  ·rw[if_neg hb];exact Gb hs ar fr k _ _ (h.step hs ar hb)
theorem pV{s:List ah}{ar fr:Int}:(cZ s ar fr).Pairwise (λa b=>a.to<b.to)∧(cZ s ar fr).length<=7∧∀w∈cZ s ar fr,(1<=w.to∧w.to<=6)∧mO w.cf∧0<=w.cost∧w.cost<=6000:=by
 unfold cZ
 by_cases hc:ey s=true∧eQ fr 1 6=true∧0<=mP s ar fr
 ·rw[if_pos hc]
  obtain⟨D,hI⟩:=Gb hc.1 ar fr 6 (W0 fr) [] (nU.start (aG.1 hc.2.1))
  have hD:=hI.len
  have hl:=hI.ok.len
  have key:∀i,(hi:i<(xV s ar fr 6 (W0 fr) []).length)->(xV s ar fr 6 (W0 fr) [])[i].to≠0->(xV s ar fr 6 (W0 fr) [])[i].to=(i:Int)∧1<=i:=by
   intro i hi h0
   have:=(hI.ok.to (i:Int) (by omega) (by omega))
   rw[gL hi]at this
   have:=this.resolve_left h0
   exact⟨this,by omega⟩
  refine⟨?_,Nat.le_trans (adD _) (by omega),λw hw=>?_⟩
  ·have hp:(xV s ar fr 6 (W0 fr) []).Pairwise λa b=>a.to≠0->b.to≠0->a.to<b.to:=by
    rw[List.pairwise_iff_getElem]
    intro i j hi hj qL h1 h2
    rw[(key i hi h1).1,(key j hj h2).1];omega
   unfold F8
   have J4:=hp.filter (λw=>!(w.to==0))
   refine J4.imp_of_mem λ{a b} ha hb q9=>q9 ?_ ?_
   ·have:=(List.mem_filter.1 ha).2;simpa using this
   ·have:=(List.mem_filter.1 hb).2;simpa using this
  ·obtain⟨h1,h2⟩:=List.mem_filter.1 hw
   have h2:w.to≠0:=by simpa using h2
   obtain⟨i,hi,rfl⟩:=List.mem_iff_getElem.1 h1
   obtain⟨h3,h4⟩:=key i hi h2
   have h5:=hI.ok.cf (i:Int) (by omega) (by omega)
   have h6:=hI.ok.cost (i:Int) (by omega) (by omega)
   rw[gL hi]at h5 h6
   exact⟨by omega,h5,by omega⟩
 ·rw[if_neg hc];simp
def r_(s:List ah)(sa:List Int)(fr:Int):List Way:=sa.flatMap λa=>cZ s a fr
theorem xY{s:List ah}{sa:List Int}{fr:Int}:∀w∈r_ s sa fr,(1<=w.to∧w.to<=6)∧mO w.cf∧0<=w.cost∧w.cost<=6000:=by
 intro w hw
 unfold r_ at hw
 obtain⟨a,_,h⟩:=List.mem_flatMap.1 hw
 exact pV.2.2 w h
def within(s:List ah)(sa:List Int)(fr:Int):List Way:=xX (r_ s sa fr)
def oV(l:List Way)(v:Int):Option Way:=if nv l v<0 then none else some (gt l (nv l v))
theorem adG(l:List Way)(v:Int):nv l v<l.length:=CR _ _
theorem Sa{l:List Way}{v:Int}{w:Way}(h:oV l v=some w):w∈l∧w.to=v:=by
 unfold oV at h
 split at h
 ·cases h
 ·rename_i hf
  cases h
  have:=yX (λw:Way=>w.to==v) l (by unfold nv at hf;omega)
  exact⟨oh (by omega) (adG _ _),by simpa[nv]using this⟩
theorem adH{s:List ah}(hs:ey s=true){x:ah}(hx:x∈s)(h:x.kind=2):(1<=x.key∧x.key<=6)∧0<=x.cost∧x.cost<=60000:=by
 have:=Br hs hx
 unfold dz at this
 rw[if_neg (by omega),if_pos h]at this
 simp only[bd,aG]at this
 exact⟨this.2.1.1.1.2,this.2.1.2⟩
theorem adI{s:List ah}{a fr v:Int}{w:Way}(h:oV (cZ s a fr) v=some w):w.to=v∧mO w.cf∧0<=w.cost∧w.cost<=6000∧ey s=true:=by
 have h1:=Sa h
 have h2:=pV.2.2 w h1.1
 refine⟨h1.2,h2.2.1,h2.2.2.1,h2.2.2.2,?_⟩
 cases e:ey s with
 |true=>rfl
 |false=>
  have:cZ s a fr=[]:=by unfold cZ;rw[if_neg (by rw[e];simp)]
  rw[this]at h1;cases h1.1
def pF(s:List ah)(A:List Int)(z:Bool)(fr:Int)(x:ah):Option Way:=
 if x.kind=2∧x.cost<60000∧x.owner≠fr∧A.contains x.aj=true∧(z=true->x.aj=0)∧nv (within s A fr) x.key<0 then
  match oV (cZ s x.aj fr) x.owner with
  |none=>none
  |some w=>if x.cost+w.cost<60000 then some ⟨x.key,x.cost+w.cost,w.cf⟩else none
 else none
theorem Oc{s:List ah}{A:List Int}{z:Bool}{fr:Int}{x:ah}{w:Way}(h:pF s A z fr x=some w):(x.kind=2∧x.cost<60000∧x.owner≠fr∧A.contains x.aj=true∧(z=true->x.aj=0)∧nv (within s A fr) x.key<0)∧∃y,oV (cZ s x.aj fr) x.owner=some y∧x.cost+y.cost<60000∧w=⟨x.key,x.cost+y.cost,y.cf⟩:=by
 unfold pF at h
 split at h
 ·rename_i hc
  refine⟨hc,?_⟩
  split at h
  ·cases h
  ·rename_i y hy
   split at h
   ·rename_i hl;cases h;exact⟨y,hy,hl,rfl⟩
   ·cases h
 ·cases h
theorem adJ{s:List ah}{A:List Int}{z:Bool}{fr:Int}{x:ah}(hx:x∈s){w:Way}(h:pF s A z fr x=some w):(1<=w.to∧w.to<=6)∧mO w.cf∧0<=w.cost∧w.cost<60000:=by
 obtain⟨h1,y,h2,h3,rfl⟩:=Oc h
 have h4:=adI h2
 have h5:=adH h4.2.2.2.2 hx h1.1
 exact⟨h5.1,h4.2.1,by show 0<=x.cost+y.cost;omega,h3⟩
def Gc(s:List ah)(A:List Int)(z:Bool)(fr:Int):List Way:=s.filterMap (pF s A z fr)
theorem Od{s:List ah}{A:List Int}{z:Bool}{fr:Int}:∀w∈Gc s A z fr,(1<=w.to∧w.to<=6)∧mO w.cf∧0<=w.cost∧w.cost<60000:=by
 intro w hw
 obtain⟨x,hx,h⟩:=List.mem_filterMap.1 hw
 exact adJ hx h
def beyond(s:List ah)(A:List Int)(z:Bool)(fr:Int):List Way:=xX (Gc s A z fr)
theorem adK(l:List Way)(v:Int):oV l v=l.find? λw=>w.to==v:=by
 cases h:l.find? (λw=>w.to==v)with
 |none=>
  cases h':oV l v with
  |none=>rfl
  |some w=>
   have:=Sa h'
   have h2:=List.find?_eq_none.1 h w this.1
   simp[this.2]at h2
 |some w=>
  unfold oV nv
  have h0:0<=iz (λw:Way=>w.to==v) l:=by
   rcases Int.lt_or_le (iz (λw:Way=>w.to==v) l) 0 with h1|h1
   ·have:=(Ns _ _).1 h1 w (List.mem_of_find?_eq_some h)
    have h2:=List.find?_some h
    rw[this]at h2;cases h2
   ·exact h1
  rw[if_neg (by omega)]
  unfold iz at h0⊢
  cases h':l.findIdx? (λw:Way=>w.to==v)with
  |none=>rw[h']at h0;exact absurd h0 (by decide)
  |some i=>
   obtain⟨h1,h2,h3⟩:=List.findIdx?_eq_some_iff_getElem.1 h'
   show some (gt l (i:Int))=some w
   rw[gL h1]
   obtain⟨e,as',bs,e1,e2⟩:=List.find?_eq_some_iff_append.1 h
   subst e1
   congr 1
   rcases Nat.lt_trichotomy i as'.length with h4|h4|h4
   ·have h5:=e2 as'[i] (List.getElem_mem h4)
    rw[List.getElem_append_left h4]at h2
    rw[h2]at h5;cases h5
   ·subst h4;simp
   ·have h5:=h3 as'.length h4
    simp at h5 e
    exact absurd e h5
def ur(W:List Way):Prop:=W.length<=1000∧∀w∈W,mO w.cf∧0<=w.cost∧w.cost<=100000
theorem ur.app{a b:List Way}(ha:a.length<=100)(hb:b.length<=100)(h:ur a)(h':ur b):ur (a++b):=
 ⟨by simp;omega,λw hw=>(List.mem_append.1 hw).elim (h.2 w) (h'.2 w)⟩
def upto(n:Nat):List Int:=(List.range n).map λi:Nat=>(i:Int)+1
theorem adM{n:Nat}{x:Int}:x∈upto n↔1<=x∧x<=n:=by
 unfold upto
 rw[List.mem_map]
 constructor
 ·rintro⟨i,hi,rfl⟩
  have:=List.mem_range.1 hi
  omega
 ·intro h
  exact⟨(x-1).toNat,List.mem_range.2 (by omega),by omega⟩
theorem adN(n:Nat):(upto n).Pairwise (· < ·):=by
 unfold upto
 rw[List.pairwise_map]
 exact List.pairwise_lt_range.imp λ{a b} h=>by omega
theorem adO{n:Nat}{l:List Int}(h:l.Pairwise (· < ·))(hm:∀x∈l,1<=x∧x<=n):l=(upto n).filter λx=>l.contains x:=
 N0 h ((adN n).filter _) λx=>by
  rw[List.mem_filter,adM,List.contains_iff_mem]
  exact⟨λhx=>⟨hm x hx,hx⟩,λhx=>hx.2⟩
theorem Bs{n:Nat}{l:List Int}(h:l.Pairwise (· < ·))(hm:∀x∈l,1<=x∧x<=n):l.length<=n:=by
 rw[adO h hm]
 refine Nat.le_trans (List.length_filter_le _ _) ?_
 unfold upto
 simp
theorem adP{s:List ah}{ar fr:Int}{w:Way}(hw:w∈cZ s ar fr):∃v∈cZ s ar fr,v.to=fr:=by
 unfold cZ at hw⊢
 by_cases hc:ey s=true∧eQ fr 1 6=true∧0<=mP s ar fr
 ·rw[if_pos hc]at hw⊢
  obtain⟨D,hI⟩:=Gb hc.1 ar fr 6 (W0 fr) [] (nU.start (aG.1 hc.2.1))
  have hl:=hI.ok.len
  obtain⟨h1,h2⟩:=List.mem_filter.1 hw
  have h2:w.to≠0:=by simpa using h2
  obtain⟨i,hi,rfl⟩:=List.mem_iff_getElem.1 h1
  have pS:=hI.ok.to (i:Int) (by omega) (by omega)
  rw[gL hi]at pS
  have pS:=pS.resolve_left h2
  rcases hI.first with⟨_,hf⟩|hf
  ·have Q3:=hI.R_
   have:=hf (i:Int) (by omega) (by omega) (by rw[gL hi];exact h2)
   exact⟨_,hw,by rw[pS,this]⟩
  ·have h3:=hI.mem fr hf
   have h4:=hI.R_
   have h5:=(hI.ok.to fr (by omega) (by omega)).resolve_left h3.2
   refine⟨_,List.mem_filter.2 ⟨oh (n:=fr) (by omega) (by omega),?_⟩,h5⟩
   simpa using h3.2
 ·rw[if_neg hc]at hw;cases hw
theorem adQ{l:List Way}{w:Way}(h:w∈l):¬nv l w.to<0:=by
 intro hc
 have:=(Ns _ _).1 hc w h
 simp at this
theorem adR{s:List ah}{A:List Int}{fr:Int}{v:Way}(h:v∈r_ s A fr):¬nv (within s A fr) v.to<0:=by
 rcases Ga (v:=v.to) _ ((r_ s A fr).filter λw=>w.to==v.to) rfl (λy hy=>by have:=List.mem_filter.1 hy;exact⟨by simpa using this.2,(xY y this.1).2.1⟩)with⟨e,_⟩|⟨b,e,hb,_⟩
 ·have:v∈(r_ s A fr).filter λw=>w.to==v.to:=List.mem_filter.2 ⟨h,by simp⟩
  rw[e]at this;cases this
 ·have hm:b∈within s A fr:=(Oa (λx hx=>(xY x hx).2.1)).2 ⟨by rw[hb];exact(xY v h).1,by rw[hb];exact e⟩
  rw[<-hb]
  exact adQ hm
theorem adS{s:List ah}{A:List Int}{z:Bool}{fr:Int}{w:Way}(h:w∈beyond s A z fr):(1<=w.to∧w.to<=6)∧mO w.cf∧(0<=w.cost∧w.cost<60000)∧w.to≠fr∧nv (within s A fr) w.to<0:=by
 have h1:=Ob (λx hx=>(Od x hx).2.1) h
 obtain⟨hh,y,hy,e1,e2⟩:=h1
 have h2:=Od y hy
 obtain⟨x,hx,h3⟩:=List.mem_filterMap.1 hy
 obtain⟨h4,y',h5,h6,h7⟩:=Oc h3
 have hk:x.key=w.to:=by rw[<-e1,h7]
 refine⟨by rw[<-e1];exact h2.1,hh,by rw[<-e2];exact h2.2.2,?_,by rw[<-hk];exact h4.2.2.2.2.2⟩
 intro e
 obtain⟨v,hv,ev⟩:=adP (Sa h5).1
 have hc:v∈r_ s A fr:=List.mem_flatMap.2 ⟨x.aj,List.contains_iff_mem.1 h4.2.2.2.1,hv⟩
 have h8:=adR hc
 have he:v.to=x.key:=by omega
 rw[he]at h8
 exact h8 h4.2.2.2.2.2
theorem adT{s:List ah}{A:List Int}{fr:Int}{w:Way}(h:w∈within s A fr):(1<=w.to∧w.to<=6)∧mO w.cf∧(0<=w.cost∧w.cost<=6000):=by
 obtain⟨hh,y,hy,e1,e2⟩:=Ob (λx hx=>(xY x hx).2.1) h
 have:=xY y hy
 exact⟨by rw[<-e1];exact this.1,hh,by rw[<-e2];exact this.2.2⟩
theorem Gd{n:Int}{ls:List dX}(h:gn (FV n) vt ls=true){l:dX}(hl:l∈ls):(1<=n∧n<=6)∧(1<=l.a∧l.a<=n)∧(1<=l.b∧l.b<=n)∧l.a<l.b∧(1<=l.cost∧l.cost<=1000)∧0<=l.aj∧l.aj<=2:=by
 obtain⟨i,hi,rfl⟩:=List.mem_iff_getElem.1 hl
 have:=cm.1 h i hi
 rw[gL hi]at this
 simp only[bd,FV,aG,decide_eq_true_eq]at this
 omega
def three:List Int:=[0,1,2]
theorem vw{x:Int}:x∈three↔0<=x∧x<=2:=by simp[three];omega
def adU(node a:Int)(l:dX):Bool:=l.aj==a&&(l.a==node||l.b==node)
def Bt(ls:List dX)(node:Int):List Int:=three.filter λa=>ls.any (adU node a)
def Oe(ls:List dX)(node:Int):Bool:=(Bt ls node).contains 0&&decide ((Bt ls node).length>1)
def Og(aj fr:Int)(w:Way):ah:=⟨aj,2,fr,w.to,0,[],w.cost,false⟩
def Ge(here:List Way)(fr:Int)(k:Int):Bool:=decide (nv here k<0)&&decide (k≠fr)
def Bu(here:List Way)(aj fr:Int)(W:List Way)(k:Int):Option ah:=if Ge here fr k=true then(oV W k).map (Og aj fr)else none
def Gf(here:List Way)(aj fr:Int)(W:List Way):List ah:=ze.filterMap (Bu here aj fr W)
theorem Oh{here:List Way}{aj fr:Int}{W:List Way}{k:Int}{r:ah}(h:Bu here aj fr W k=some r):r.key=k∧r.aj=aj∧r.kind=2∧r.owner=fr∧r.aQ=[]∧r.seq=0∧r.gM=false∧Ge here fr k=true∧∃w,oV W k=some w∧r=Og aj fr w:=by
 unfold Bu at h
 split at h
 ·rename_i hc
  obtain⟨w,hw,e⟩:=Option.map_eq_some_iff.1 h
  subst e
  exact⟨(Sa hw).2,rfl,rfl,rfl,rfl,rfl,rfl,hc,w,hw,rfl⟩
 ·cases h
theorem vx{here:List Way}{aj fr:Int}{W:List Way}{r:ah}:r∈Gf here aj fr W↔(1<=r.key∧r.key<=6)∧Bu here aj fr W r.key=some r:=by
 unfold Gf
 rw[List.mem_filterMap]
 constructor
 ·rintro⟨k,hk,h⟩
  have:=(Oh h).1
  subst this
  exact⟨li.1 hk,h⟩
 ·rintro⟨h1,h2⟩
  exact⟨r.key,li.2 h1,h2⟩
def Oi(A:List Int)(aj:Int):List Int:=A.filter λa=>!(a==aj)
def Gg(s:List ah)(A:List Int)(fr aj:Int):List Way:=within s (Oi A aj) fr++if aj=0 then []else beyond s A true fr
def gD(s:List ah)(A:List Int)(fr aj:Int):List ah:=Gf (cZ s aj fr) aj fr (Gg s A fr aj)
theorem Oj{α:Type} [Inhabited α]{ok:α->Bool}{lt:α->α->Bool}(tr:∀a b c,lt a b=true->lt b c=true->lt a c=true){l:List α}(h:gn ok lt l=true):l.Pairwise λa b=>lt a b=true:=by
 have h:=cm.1 h
 rw[List.pairwise_iff_getElem]
 have step:∀i,(hi:i+1<l.length)->lt l[i] l[i+1]=true:=by
  intro i hi
  have:=h (i+1) hi
  simp only[bd,Bool.or_eq_true,Bool.not_eq_true',decide_eq_false_iff_not]at this
  have h2:=this.2.resolve_left (by omega)
  rwa[show(((i+1:Nat):Int)-1)=(i:Int) by omega,gL (by omega),gL hi]at h2
 intro i j hi hj qL
 obtain⟨d,rfl⟩:∃d,j=i+1+d:=⟨j-i-1,by omega⟩
 clear qL
 induction d with
 |zero=>exact step i (by omega)
 |succ d ih=>exact tr _ _ _ (ih (by omega)) (step (i+1+d) (by omega))
theorem Gi{α:Type} [Inhabited α]{ok:α->Bool}{lt:α->α->Bool}{l:List α}(h1:∀x∈l,ok x=true)(h2:l.Pairwise λa b=>lt a b=true):gn ok lt l=true:=by
 unfold gn
 rw[cm]
 intro i hi
 rw[gL hi]
 simp only[bd,Bool.or_eq_true,Bool.not_eq_true',decide_eq_false_iff_not]
 refine⟨h1 _ (List.getElem_mem hi),?_⟩
 rcases Nat.eq_zero_or_pos i with h0|h0
 ·exact .inl (by omega)
 ·right
  rw[show((i:Int)-1)=((i-1:Nat):Int) by omega,gL (by omega)]
  exact List.pairwise_iff_getElem.1 h2 (i-1) i (by omega) hi (by omega)
theorem nw{a b ar:Int}{l:dX}:tB a b ar l=true↔l.aj=ar∧(l.a=a∧l.b=b∨l.a=b∧l.b=a):=by
 unfold tB
 simp only[bd,Bool.or_eq_true,beq_iff_eq]
theorem Gj{α:Type} [Inhabited α]{p:α->Bool}{l:List α}{x:α}(hx:x∈l)(h:p x=true):0<=iz p l:=by
 rcases Int.lt_or_le (iz p l) 0 with h1|h1
 ·have:=(Ns _ _).1 h1 x hx
  rw[h]at this;cases this
 ·exact h1
def Ol(ls:List dX)(L:List Bool)(a b ar:Int):Int:=
 if iz (tB a b ar) ls<0 then 0 else if gt L (iz (tB a b ar) ls)=true then(gt ls (iz (tB a b ar) ls)).cost else 0
def adV(ls:List dX)(L U:List Bool)(node a:Int):List bA:=(ze.filter λv=>decide (Ol ls L node v a>0)&&gt U (v-1)).map λv=>⟨v,Ol ls L node v a⟩
theorem Om{o:Int}{l:List bA}(h1:∀x∈l,(1<=x.to∧x.to<=6)∧x.to≠o∧1<=x.cost∧x.cost<=1000)(h2:l.Pairwise λa b=>a.to<b.to):rZ o l=true:=by
 unfold rZ
 rw[cm]
 intro i hi
 have h3:=h1 _ (List.getElem_mem hi)
 rw[gL hi]
 simp only[bd,Bool.or_eq_true,Bool.not_eq_true',decide_eq_false_iff_not,aG,decide_eq_true_eq]
 refine⟨⟨⟨h3.1,h3.2.1⟩,h3.2.2⟩,?_⟩
 rcases Nat.eq_zero_or_pos i with h0|h0
 ·exact .inl (by omega)
 ·right
  rw[show((i:Int)-1)=((i-1:Nat):Int) by omega,gL (by omega)]
  exact List.pairwise_iff_getElem.1 h2 (i-1) i (by omega) hi (by omega)
def pW(r:ah):Bool:=r.kind==3
def oq(k:Nat)(s:List ah):Prop:=lq s∧(∀r∈s,dz r=true)∧(s.filter pW).length<=k
theorem On{o:Int}{l:List bA}(h:rZ o l=true):l.length<=6:=by
 rw[<-List.length_map (f:=bA.to)]
 refine Bs (n:=6) ?_ ?_
 ·rw[List.pairwise_map]
  exact ads h
 ·intro x hx
  obtain⟨y,hy,rfl⟩:=List.mem_map.1 hx
  exact(R9 h hy).1
theorem Bv{r:ah}(h:dz r=true):r.aQ.length<=6:=by
 unfold dz at h
 simp only[bd]at h
 have h:=h.2
 split at h
 ·simp only[bd]at h
  exact On h.1.1.2
 ·split at h
  ·simp only[bd,decide_eq_true_eq]at h
   omega
  ·split at h
   ·simp only[bd,decide_eq_true_eq]at h
    omega
   ·cases h
theorem Oo{r:ah}(h:dz r=true):(1<=r.owner∧r.owner<=6)∧(r.kind=1∧r.key=0∧0<=r.aj∧r.aj<=2∨r.kind=2∧(1<=r.key∧r.key<=6)∧0<=r.aj∧r.aj<=2∨r.kind=3):=by
 unfold dz at h
 simp only[bd,aG]at h
 refine⟨h.1.1,?_⟩
 have h:=h.2
 split at h
 ·simp only[bd,aG,decide_eq_true_eq]at h
  omega
 ·split at h
  ·simp only[bd,aG,decide_eq_true_eq]at h
   omega
  ·split at h
   ·omega
   ·cases h
theorem oq.aQ{k:Nat}{s:List ah}(h:oq k s):cK s:=λr hr=>by
 have:=Bv (h.2.1 r hr);omega
theorem adW(s:List ah)(h:∀r∈s,r.kind=1∨r.kind=2∨r.kind=3):s.length=(s.filter λr=>r.kind==1).length+(s.filter λr=>r.kind==2).length+(s.filter pW).length:=by
 induction s with
 |nil=>rfl
 |cons x s ih=>
  have ih:=ih λr hr=>h r (.tail _ hr)
  have hx:=h x (.head _)
  simp only[List.filter_cons,List.length_cons,pW]
  rw[ih]
  rcases hx with hx|hx|hx<;>simp[hx,pW]<;>omega
theorem oq.len{k:Nat}{s:List ah}(h:oq k s):s.length<=126+k:=by
 obtain⟨h1,h2,h3⟩:=h
 have hk:=λr hr=>Oo (h2 r hr)
 rw[adW s λr hr=>by have:=hk r hr;omega]
 have a1:(s.filter λr=>r.kind==1).length<=18:=by
  rw[<-List.length_map (f:=λr:ah=>r.aj*6+r.owner)]
  refine Bs (n:=18) ?_ ?_
  ·rw[List.pairwise_map]
   refine(h1.filter _).imp_of_mem λ{a b} ha hb q9=>?_
   obtain⟨ha1,ha2⟩:=List.mem_filter.1 ha
   obtain⟨po,mq⟩:=List.mem_filter.1 hb
   simp only[beq_iff_eq]at ha2 mq
   have:=hk a ha1
   have:=hk b po
   rw[tC]at q9
   omega
  ·intro x hx
   obtain⟨r,hr,rfl⟩:=List.mem_map.1 hx
   obtain⟨nF,rz⟩:=List.mem_filter.1 hr
   simp only[beq_iff_eq]at rz
   have:=hk r nF
   omega
 have a2:(s.filter λr=>r.kind==2).length<=108:=by
  rw[<-List.length_map (f:=λr:ah=>(r.aj*6+r.owner-1)*6+r.key)]
  refine Bs (n:=108) ?_ ?_
  ·rw[List.pairwise_map]
   refine(h1.filter _).imp_of_mem λ{a b} ha hb q9=>?_
   obtain⟨ha1,ha2⟩:=List.mem_filter.1 ha
   obtain⟨po,mq⟩:=List.mem_filter.1 hb
   simp only[beq_iff_eq]at ha2 mq
   have:=hk a ha1
   have:=hk b po
   rw[tC]at q9
   omega
  ·intro x hx
   obtain⟨r,hr,rfl⟩:=List.mem_map.1 hx
   obtain⟨nF,rz⟩:=List.mem_filter.1 hr
   simp only[beq_iff_eq]at rz
   have:=hk r nF
   omega
 omega
theorem oq.ok{k:Nat}{s:List ah}(h:oq k s)(hk:k<=24):ey s=true:=by
 have:=h.len
 unfold ey
 rw[bd,decide_eq_true_eq]
 exact⟨by omega,Gi h.2.1 h.1⟩
theorem kk_(s:List ah)(r:ah)(p:ah->Bool):((eJ s r).filter p).length<=(s.filter p).length+(if p r=true then 1 else 0):=by
 have h1:((s.filter λx=>gC x r).filter p).length+((s.filter λx=>gC r x).filter p).length<=(s.filter p).length:=by
  induction s with
  |nil=>simp
  |cons x s ih=>
   simp only[List.filter_cons]
   cases h:gC x r with
   |true=>
    rw[R7 h]
    cases hp:p x<;>simp[hp]<;>simp at ih<;>omega
   |false=>cases h':gC r x<;>cases hp:p x<;>simp[hp]<;>simp at ih<;>omega
 have h2:([r].filter p).length=if p r=true then 1 else 0:=by
  rw[List.filter_cons]
  split<;>rfl
 unfold eJ
 rw[List.filter_append,List.filter_append,List.length_append,List.length_append,h2]
 omega
theorem oq.put{k:Nat}{s:List ah}(h:oq k s){r:ah}(hr:dz r=true):oq (k+if r.kind=3 then 1 else 0) (eJ s r):=by
 refine⟨R8 h.1 r,λx hx=>?_,?_⟩
 ·rcases zd hx with rfl|hx
  ·exact hr
  ·exact h.2.1 x hx
 ·have h1:=kk_ s r pW
  have h2:=h.2.2
  have h3:(pW r=true)=(r.kind=3):=by unfold pW;simp
  simp only[h3]at h1
  omega
theorem oq.adZ{k:Nat}{s:List ah}(h:oq k s){r:ah}(hr:dz r=true)(h3:r.kind≠3):oq k (eJ s r):=by
 have:=h.put hr
 rwa[if_neg h3]at this
theorem oq.filter{k:Nat}{s:List ah}(h:oq k s)(p:ah->Bool):oq k (s.filter p):=by
 refine⟨h.1.filter _,λx hx=>h.2.1 x (List.mem_filter.1 hx).1,?_⟩
 rw[List.filter_filter]
 refine Nat.le_trans ?_ h.2.2
 rw[<-List.countP_eq_length_filter,<-List.countP_eq_length_filter]
 exact List.countP_mono_left λx _ hx=>(bd _ _▸hx).1
theorem oq.nil:oq 0 []:=⟨.nil,by simp,by simp⟩
theorem oq.mono{k k':Nat}{s:List ah}(h:oq k s)(hk:k<=k'):oq k' s:=⟨h.1,h.2.1,Nat.le_trans h.2.2 hk⟩
def iu(r:ah):ah:={r with seq:=1}
def nV(f:ah->ah)(s l:List ah):List ah:=l.foldl (λc r=>eJ c (f r)) s
def ad0(v:Int)(r:ah):Bool:=!(r.kind==2&&r.owner==v)
def ad1(s:List ah)(A:List Int)(v:Int):List ah:=nV iu (s.filter (ad0 v)) (A.flatMap λa=>gD s A v a)
theorem ad2{W:List Way}{k:Int}{w:Way}(h:oV W k=some w):w∈W:=by
 rw[adK]at h
 exact List.mem_of_find?_eq_some h
theorem Oq{s:List ah}{A:List Int}{fr aj:Int}{r:ah}(h:r∈gD s A fr aj):r.aj=aj∧r.kind=2∧r.owner=fr∧(1<=r.key∧r.key<=6)∧r.aQ=[]∧r.seq=0∧(0<=r.cost∧r.cost<=60000)∧r.gM=false∧r.key≠fr:=by
 unfold gD at h
 obtain⟨h1,h2⟩:=vx.1 h
 obtain⟨_,h3,h4,h5,h6,h7,h8,h9,w,hw,rfl⟩:=Oh h2
 refine⟨h3,h4,h5,h1,h6,h7,?_,h8,?_⟩
 ·have hm:=ad2 hw
  unfold Gg at hm
  rcases List.mem_append.1 hm with hm|hm
  ·have:=(adT hm).2.2
   show 0<=w.cost∧w.cost<=60000
   omega
  ·split at hm
   ·cases hm
   ·have:=(adS hm).2.2.1
    show 0<=w.cost∧w.cost<=60000
    omega
 ·unfold Ge at h9
  simp only[bd,decide_eq_true_eq]at h9
  exact h9.2
theorem ad3{s:List ah}{A:List Int}{fr aj:Int}(hf:1<=fr∧fr<=6)(ha:0<=aj∧aj<=2){r:ah}(h:r∈gD s A fr aj):dz (iu r)=true∧(iu r).kind≠3:=by
 obtain⟨h1,h2,h3,h4,h5,h6,h7,h8,_⟩:=Oq h
 refine⟨?_,by show r.kind≠3;omega⟩
 unfold dz
 simp only[iu,h1,h2,h3,h5,h8,List.length_nil,bd,aG]
 refine⟨⟨hf,by omega⟩,?_⟩
 simp[aG,ha,h4,h7]
theorem oq.tE{k:Nat}{f:ah->ah}{l:List ah}(hl:∀r∈l,dz (f r)=true∧(f r).kind≠3):∀{s:List ah},oq k s->oq k (nV f s l):=by
 unfold nV
 induction l with
 |nil=>intro s h;exact h
 |cons x l ih=>
  intro s h
  rw[List.foldl_cons]
  exact ih (λr hr=>hl r (.tail _ hr)) (h.adZ (hl x (.head _)).1 (hl x (.head _)).2)
theorem Ot{ls:List dX}{v a:Int}(h:a∈Bt ls v):0<=a∧a<=2:=vw.1 (List.mem_filter.1 h).1
def Gk(r:ah):ah:=if r.seq=0 then {r with seq:=1}else r
def ad4(ls:List dX)(L U:List Bool)(v a:Int):ah:=⟨a,1,v,0,1,adV ls L U v a,0,false⟩
def ad5(t:j5):ah:=⟨9,3,t.owner,t.key,1,[],t.cost,t.gM⟩
theorem ad6{n:Int}{ts:List j5}(h:gn (IB n) Bo ts=true){t:j5}(ht:t∈ts):(1<=t.owner∧t.owner<=n)∧(1<=t.key∧t.key<=9)∧(1<=t.cost∧t.cost<=1000):=by
 obtain⟨i,hi,rfl⟩:=List.mem_iff_getElem.1 ht
 have:=cm.1 h i hi
 rw[gL hi]at this
 simp only[bd,IB,aG]at this
 omega
def ad7(ls:List dX)(L U:List Bool)(c:List ah)(i:Nat):List ah:=
 if gt U ((i:Int)+1-1)=true then(Bt ls ((i:Int)+1)).foldl (λc a=>eJ c (ad4 ls L U ((i:Int)+1) a)) c else c
def ad8(U:List Bool)(c:List ah)(t:j5):List ah:=if gt U (t.owner-1)=true then eJ c (ad5 t)else c
def ad9(ls:List dX)(U:List Bool)(c:List ah)(i:Nat):List ah:=
 if gt U ((i:Int)+1-1)=true then(if Oe ls ((i:Int)+1)=true then ad1 c (Bt ls ((i:Int)+1)) ((i:Int)+1)else c)else c
def ad_(n:Int)(ls:List dX)(U:List Bool)(c:List ah)(_:Nat):List ah:=(List.range n.toNat).foldl (ad9 ls U) c
def an3(x:Net)(L U:List Bool):List ah:=(List.range 3).foldl (ad_ x.n x.cS U) (x.gN.foldl (ad8 U) ((List.range x.n.toNat).foldl (ad7 x.cS L U) []))
theorem Ou{x:Net}(h:xR x=true):(1<=x.n∧x.n<=6)∧x.cS.length<=12∧x.gN.length<=4∧gn (FV x.n) vt x.cS=true∧gn (IB x.n) Bo x.gN=true:=by
 unfold xR at h
 simp only[bd,decide_eq_true_eq,aG]at h
 exact⟨h.1.1.1.1,h.1.1.1.2,h.1.1.2,h.1.2,h.2⟩
section
variable {n:Int} {ls:List dX} {L U:List Bool} (h:gn (FV n) vt ls=true) (hn:n<=6)
include h hn
end
theorem ad'{s s':List ah}{ar:Int}(h:∀u v,ej s ar u v=ej s' ar u v)(fr a:Int):qM s ar fr a=qM s' ar fr a:=by
 funext W i
 unfold qM
 rw[h]
theorem Ov{s s':List ah}{ar:Int}(h:∀u v,ej s ar u v=ej s' ar u v)(fr:Int):∀k W D,xV s ar fr k W D=xV s' ar fr k W D
 |0,_,_=>rfl
 |k+1,W,D=>by
  unfold xV
  have e:r9 s ar fr (gp W D) W=r9 s' ar fr (gp W D) W:=by unfold r9;rw[ad' h]
  rw[e,Ov h fr k]
theorem aea{s s':List ah}{ar fr:Int}(h:∀u v,ej s ar u v=ej s' ar u v)(hs:ey s=ey s')(hn:0<=mP s ar fr↔0<=mP s' ar fr):cZ s ar fr=cZ s' ar fr:=by
 unfold cZ
 rw[hs,Ov h]
 by_cases h0:0<=mP s ar fr
 ·have:=hn.1 h0
  simp[h0,this]
 ·have:¬0<=mP s' ar fr:=λhc=>h0 (hn.2 hc)
  simp[h0,this]
theorem aeb{s:List ah}(hs:lq s){r:ah}(hr:r∈s){ar v:Int}(h:eW r ⟨ar,1,v,0,0,[],0,false⟩=true):0<=mP s ar v∧gt s (mP s ar v)=r:=by
 have h0:0<=mP s ar v:=Gj hr h
 refine⟨h0,?_⟩
 have h1:=Bq s ar v
 have h2:eW (gt s (mP s ar v)) ⟨ar,1,v,0,0,[],0,false⟩=true:=yX _ _ h0
 have hm:=oh (l:=s) (n:=mP s ar v) h0 h1
 generalize gt s (mP s ar v)=x at h2 hm
 rw[sameKey_iff]at h h2
 obtain⟨i,hi,rfl⟩:=List.mem_iff_getElem.1 hr
 obtain⟨j,hj,rfl⟩:=List.mem_iff_getElem.1 hm
 rcases Nat.lt_trichotomy i j with qL|qL|qL
 ·have:=List.pairwise_iff_getElem.1 hs i j hi hj qL
  rw[tC]at this
  simp only at h h2
  omega
 ·subst qL;rfl
 ·have:=List.pairwise_iff_getElem.1 hs j i hj hi qL
  rw[tC]at this
  simp only at h h2
  omega
structure zg (A:List Int) (s s':List ah):Prop where
 so:lq s
 sub:∀r∈s',r∈s
 so':lq s'
 aF:∀r∈s,r∉s'->r.kind=1∧A.contains r.aj=false
theorem zg.node{A:List Int}{s s':List ah}(h:zg A s s'){ar:Int}(ha:A.contains ar=true)(v:Int):(0<=mP s ar v↔0<=mP s' ar v)∧C1 s ar v=C1 s' ar v:=by
 by_cases h0:0<=mP s' ar v
 ·have hm:=oh (l:=s') (n:=mP s' ar v) h0 (Bq s' ar v)
  obtain⟨h1,h2⟩:=aeb h.so (h.sub _ hm) (yX _ _ h0)
  refine⟨⟨λ_=>h0,λ_=>h1⟩,?_⟩
  unfold C1
  rw[if_neg (by omega),if_neg (by omega),h2]
 ·have h1:¬0<=mP s ar v:=by
   intro hc
   have hm:=oh (l:=s) (n:=mP s ar v) hc (Bq s ar v)
   have hk:eW (gt s (mP s ar v)) ⟨ar,1,v,0,0,[],0,false⟩=true:=yX _ _ hc
   by_cases pN:gt s (mP s ar v)∈s'
   ·exact h0 (Gj pN hk)
   ·have:=(h.aF _ hm pN).2
    rw[sameKey_iff]at hk
    simp only at hk
    rw[hk.1,ha]at this
    cases this
  refine⟨⟨λhc=>absurd hc h1,λhc=>absurd hc h0⟩,?_⟩
  unfold C1
  rw[if_pos (by omega),if_pos (by omega)]
theorem zg.cZ{A:List Int}{s s':List ah}(h:zg A s s')(hs:ey s=ey s'){ar:Int}(ha:A.contains ar=true)(fr:Int):Go.Proofs.YtbhplkilhknciaaC.cZ s ar fr=Go.Proofs.YtbhplkilhknciaaC.cZ s' ar fr:=by
 refine aea (λu v=>?_) hs (h.node ha fr).1
 unfold ej C2
 rw[(h.node ha u).2,(h.node ha v).2]
theorem aec{α β:Type}{l:List α}{f g:α->List β}(h:∀a∈l,f a=g a):l.flatMap f=l.flatMap g:=by
 induction l with
 |nil=>rfl
 |cons x l ih=>rw[List.flatMap_cons,List.flatMap_cons,h x (.head _),ih λa ha=>h a (.tail _ ha)]
theorem aed{α β:Type}{l:List α}{f g:α->Option β}(h:∀a∈l,f a=g a):l.filterMap f=l.filterMap g:=by
 induction l with
 |nil=>rfl
 |cons x l ih=>rw[List.filterMap_cons,List.filterMap_cons,h x (.head _),ih λa ha=>h a (.tail _ ha)]
theorem zg.within{A:List Int}{s s':List ah}(h:zg A s s')(hs:ey s=ey s'){B:List Int}(hB:∀a∈B,A.contains a=true)(fr:Int):Go.Proofs.YtbhplkilhknciaaC.within s B fr=Go.Proofs.YtbhplkilhknciaaC.within s' B fr:=by
 unfold Go.Proofs.YtbhplkilhknciaaC.within r_
 rw[aec λa ha=>h.cZ hs (hB a ha) fr]
theorem aee{s s':List ah}(h:lq s)(h':lq s')(i_:∀r∈s',r∈s):s'=s.filter λr=>@decide (r∈s') (Classical.propDecidable _):=by
 have key:∀{a b:List ah},lq a->lq b->(∀x,x∈a↔x∈b)->a=b:=by
  intro a
  induction a with
  |nil=>
   intro b _ _ hm
   cases b with
   |nil=>rfl
   |cons y b=>exact absurd ((hm y).2 (.head _)) (by simp)
  |cons x a ih=>
   intro b ha hb hm
   cases b with
   |nil=>exact absurd ((hm x).1 (.head _)) (by simp)
   |cons y b=>
    have pa:=List.pairwise_cons.1 ha
    have pb:=List.pairwise_cons.1 hb
    have e:x=y:=by
     rcases List.mem_cons.1 ((hm x).1 (.head _))with e|hx
     ·exact e
     ·rcases List.mem_cons.1 ((hm y).2 (.head _))with e|hy
      ·exact e.symm
      ·have h1:=pb.1 x hx
       have h2:=pa.1 y hy
       rw[R7 h1]at h2;cases h2
    subst e
    congr 1
    refine ih pa.2 pb.2 λz=>⟨λhz=>?_,λhz=>?_⟩
    ·rcases List.mem_cons.1 ((hm z).1 (.tail _ hz))with e|Kc
     ·have:=pa.1 z hz
      rw[e,F3]at this;cases this
     ·exact Kc
    ·rcases List.mem_cons.1 ((hm z).2 (.tail _ hz))with e|Kc
     ·have:=pb.1 z hz
      rw[e,F3]at this;cases this
     ·exact Kc
 refine key h' (h.filter _) λr=>?_
 rw[List.mem_filter,@decide_eq_true_eq _ (Classical.propDecidable _)]
 exact⟨λhr=>⟨i_ r hr,hr⟩,λhr=>hr.2⟩
theorem zg.beyond{A:List Int}{s s':List ah}(h:zg A s s')(hs:ey s=ey s')(z:Bool)(fr:Int):Go.Proofs.YtbhplkilhknciaaC.beyond s A z fr=Go.Proofs.YtbhplkilhknciaaC.beyond s' A z fr:=by
 have hw:=h.within hs (B:=A) (λa ha=>List.contains_iff_mem.2 ha) fr
 have e1:∀x,pF s A z fr x=pF s' A z fr x:=by
  intro x
  unfold pF
  rw[hw]
  by_cases hc:x.kind=2∧x.cost<60000∧x.owner≠fr∧A.contains x.aj=true∧(z=true->x.aj=0)∧nv (Go.Proofs.YtbhplkilhknciaaC.within s' A fr) x.key<0
  ·rw[if_pos hc,if_pos hc,h.cZ hs hc.2.2.2.1]
  ·rw[if_neg hc,if_neg hc]
 unfold Go.Proofs.YtbhplkilhknciaaC.beyond Gc
 rw[show pF s A z fr=pF s' A z fr from funext e1]
 congr 1
 rw[aee h.so h.so' h.sub,List.filterMap_filter]
 refine aed λx hx=>?_
 by_cases pN:x∈s'
 ·rw[if_pos (by rw[@decide_eq_true_eq _ (Classical.propDecidable _)];exact pN)]
 ·rw[if_neg (by rw[@decide_eq_true_eq _ (Classical.propDecidable _)];exact pN)]
  unfold pF
  rw[if_neg λhc=>by have:=(h.aF x hx pN).1;omega]
theorem zg.gD{A:List Int}{s s':List ah}(h:zg A s s')(hs:ey s=ey s'){aj:Int}(ha:A.contains aj=true)(fr:Int):Go.Proofs.YtbhplkilhknciaaC.gD s A fr aj=Go.Proofs.YtbhplkilhknciaaC.gD s' A fr aj:=by
 unfold Go.Proofs.YtbhplkilhknciaaC.gD Gg
 rw[h.cZ hs ha,h.beyond hs,h.within (B:=Oi A aj) hs λa ha=>List.contains_iff_mem.2 (List.mem_filter.1 ha).1]
theorem xZ{x:Self}(h:sC x=true):xR x.net=true∧(1<=x.id∧x.id<=x.net.n)∧(0<=x.j6∧x.j6<=90)∧x.heard.length%2=0∧xS (λv a=>decide (0<=iz (tB x.id v a) x.net.cS)) x.heard=true∧ey x.store=true:=by
 unfold sC at h
 simp only[bd,aG,decide_eq_true_eq]at h
 exact⟨h.1,h.2.1,h.2.2.1,h.2.2.2.1.1,h.2.2.2.1.2,h.2.2.2.2⟩
def Gl(ls:List dX)(id:Int)(hd:List Int)(a:Int):List bA:=
 ((List.range (hd.length/2)).filter λk:Nat=>decide (gt hd (2*(k:Int)+1)=a)).map λk:Nat=>⟨gt hd (2*(k:Int)),FW ls id (gt hd (2*(k:Int))) a⟩
def Ow(ls:List dX)(id:Int)(hd:List Int)(a:Int):ah:=⟨a,1,id,0,0,Gl ls id hd a,0,false⟩
def vy(x:Self):List ah:=(Bt x.net.cS x.id).map (Ow x.net.cS x.id x.heard)
def aef(id:Int)(r:ah):Bool:=!(r.kind==1&&r.owner==id)
def byR(s:List ah)(id:Int)(l:List ah):List ah:=nV iu (s.filter (aef id)) l
def Gm(id:Int)(t:j5):ah:=⟨9,3,id,t.key,0,[],t.cost,t.gM⟩
def IG(x:Self):List ah:=(x.net.gN.filter λt=>t.owner==x.id).map (Gm x.id)
def Bw(x:Self)(S:List ah):List ah:=if Oe x.net.cS x.id=true then(Bt x.net.cS x.id).flatMap λa=>gD S (Bt x.net.cS x.id) x.id a else []
def same(r:ah):ah:=r
def x_(x:Self)(S:List ah):List ah:=nV same [] (vy x++Bw x S++IG x)
theorem aeg(x:Self):(IG x).length<=x.net.gN.length:=by unfold IG;rw[List.length_map];exact List.length_filter_le _ _
structure Fit (k:Nat) (s:List ah):Prop where
 so:lq s
 aQ:cK s
 len:s.length<=k
theorem Fit.nil:Fit 0 []:=⟨.nil,λr hr=>(by cases hr),Nat.le_refl _⟩
theorem Fit.mono{k k':Nat}{s:List ah}(h:Fit k s)(hk:k<=k'):Fit k' s:=⟨h.so,h.aQ,Nat.le_trans h.len hk⟩
theorem Fit.put{k:Nat}{s:List ah}(h:Fit k s){r:ah}(hr:r.aQ.length<=1048576):Fit (k+1) (eJ s r):=⟨R8 h.so r,adk h.aQ hr,adn (by have:=h.len;omega)⟩
theorem Fit.tE{f:ah->ah}{l:List ah}(hl:∀r∈l,(f r).aQ.length<=1048576):∀{k:Nat} {s:List ah},Fit k s->Fit (k+l.length) (nV f s l):=by
 unfold nV
 induction l with
 |nil=>intro k s h;exact h
 |cons x l ih=>
  intro k s h
  rw[List.foldl_cons,List.length_cons]
  exact(ih (λr hr=>hl r (.tail _ hr)) (h.put (hl x (.head _)))).mono (by omega)
theorem Fit.filter{k:Nat}{s:List ah}(h:Fit k s)(p:ah->Bool):Fit k (s.filter p):=⟨h.so.filter _,λr hr=>h.aQ r (List.mem_filter.1 hr).1,Nat.le_trans (List.length_filter_le _ _) h.len⟩
theorem Sb{a b:ah}(h:eW a b=true):eW b a=true:=by rw[sameKey_iff]at *;omega
theorem Gn{a b c:ah}(h:eW a b=true)(h':eW b c=true):eW a c=true:=by rw[sameKey_iff]at *;omega
theorem Ox(a:ah):eW a a=true:=by rw[sameKey_iff];omega
theorem ew{s:List ah}{r x:ah}:x∈eJ s r↔x=r∨(x∈s∧eW x r=false):=by
 unfold eJ
 simp only[List.mem_append,List.mem_filter,List.mem_singleton]
 constructor
 ·rintro(⟨h,q⟩|h|⟨h,q⟩)
  ·exact .inr ⟨h,qt_ q⟩
  ·exact .inl h
  ·refine .inr ⟨h,?_⟩
   cases hc:eW x r with
   |false=>rfl
   |true=>have:=Sb hc;rw[qt_ q]at this;cases this
 ·rintro(h|⟨h,q⟩)
  ·exact .inr (.inl h)
  ·cases hl:gC x r with
   |true=>exact .inl ⟨h,rfl⟩
   |false=>exact .inr (.inr ⟨h,adi hl q⟩)
def dO(s:List ah)(r:ah):Prop:=∃x∈s,eW r x=true
theorem dO.put{s:List ah}{y:ah}(h:dO s y)(r:ah):dO (eJ s r) y:=by
 obtain⟨x,hx,hk⟩:=h
 cases hc:eW x r with
 |true=>exact⟨r,ew.2 (.inl rfl),Gn hk hc⟩
 |false=>exact⟨x,ew.2 (.inr ⟨hx,hc⟩),hk⟩
theorem dO.new{s:List ah}{y r:ah}(h:eW y r=true):dO (eJ s r) y:=⟨r,ew.2 (.inl rfl),h⟩
theorem dO.tE{f:ah->ah}{y:ah}:∀{l s:List ah},dO s y->dO (nV f s l) y
 | [],_,h=>h
 |x::l,s,h=>dO.tE (l:=l) (h.put (f x))
theorem dO.sd{f:ah->ah}{y z:ah}(hz:eW y (f z)=true):∀{l s:List ah},z∈l->dO (nV f s l) y
 |x::l,s,h=>by
  rcases List.mem_cons.1 h with rfl|h
  ·exact dO.tE (l:=l) (dO.new hz)
  ·exact dO.sd hz (l:=l) h
theorem kp_:∀{s t:List ah},lq s->lq t->(∀r∈s,dO t r)->s.length<=t.length
 | [],t,_,_,_=>by simp
 |x::s,t,hs,ht,h=>by
  have ps:=List.pairwise_cons.1 hs
  obtain⟨y,hy,hk⟩:=h x (.head _)
  obtain⟨t1,t2,rfl⟩:=List.append_of_mem hy
  have pt:=List.pairwise_append.1 ht
  have pt2:=List.pairwise_cons.1 pt.2.1
  have ih:=kp_ (s:=s) (t:=t2) ps.2 pt2.2 λr hr=>by
   obtain⟨z,hz,hkz⟩:=h r (.tail _ hr)
   have bI:gC y z=true:=by
    have h1:=ps.1 r hr
    rw[tC]at*
    rw[sameKey_iff]at hk hkz
    omega
   rcases List.mem_append.1 hz with hz|hz
   ·have h2:=pt.2.2 z hz y (.head _)
    rw[R7 bI]at h2;cases h2
   ·rcases List.mem_cons.1 hz with e|hz
    ·subst e
     rw[F3]at bI;cases bI
    ·exact⟨z,hz,hkz⟩
  simp only[List.length_append,List.length_cons]
  omega
theorem Sc{f:ah->ah}{r:ah}:∀{l s:List ah},l.Pairwise (λa b=>eW (f a) (f b)=false)->(r∈nV f s l↔(∃o∈l,r=f o)∨(r∈s∧∀o∈l,eW r (f o)=false))
 | [],s,_=>by simp[nV]
 |x::l,s,h=>by
  have hp:=List.pairwise_cons.1 h
  rw[show nV f s (x::l)=nV f (eJ s (f x)) l from rfl,Sc hp.2,ew]
  constructor
  ·rintro(⟨o,ho,e⟩|⟨e|⟨h1,h2⟩,h3⟩)
   ·exact .inl ⟨o,.tail _ ho,e⟩
   ·exact .inl ⟨x,.head _,e⟩
   ·refine .inr ⟨h1,λo ho=>?_⟩
    rcases List.mem_cons.1 ho with rfl|ho
    ·exact h2
    ·exact h3 o ho
  ·rintro(⟨o,ho,e⟩|⟨h1,h2⟩)
   ·rcases List.mem_cons.1 ho with rfl|ho
    ·exact .inr ⟨.inl e,λo' xe=>by rw[e];exact hp.1 o' xe⟩
    ·exact .inl ⟨o,ho,e⟩
   ·exact .inr ⟨.inr ⟨h1,h2 x (.head _)⟩,λo ho=>h2 o (.tail _ ho)⟩
def uu(s:List ah)(r:ah):Int:=if eU s r<0 then 0 else(gt s (eU s r)).seq
def Bx(x:Self)(r:ah):Int:=if 1000*x.j6+1>uu x.store r+1 then 1000*x.j6+1 else uu x.store r+1
def vz(s:List ah)(r:ah):Bool:=decide (eU s r<0)|| !wh (gt s (eU s r)) r
def Gp(x:Self)(r:ah):ah:={r with seq:=Bx x r}
def Bz(x:Self)(c:List ah)(r:ah):List ah:=if vz x.store r=true then eJ c (Gp x r)else c
def tF(r:ah):ah:=if r.kind=1 then {r with aQ:=[]}else {r with aQ:=[],cost:=60000}
def tG(x:Self)(W:List ah)(r:ah):Bool:=(r.owner==x.id)&&(decide (eU W r<0)&& !wh (tF r) r)
def Gq(x:Self)(r:ah):ah:={tF r with seq:=Bx x r}
def ya(x:Self)(W:List ah)(c:List ah)(r:ah):List ah:=if tG x W r=true then eJ c (Gq x r)else c
def vA(x:Self)(W:List ah):List ah:=x.store.foldl (ya x W) (W.foldl (Bz x) [])
def Oy(x:Self)(W:List ah):Self×List ah:=
 if(vA x W).all (λr=>decide (r.seq<=100000))=true∧(nV same x.store (vA x W)).length<=150 then({x with store:=nV same x.store (vA x W)},vA x W)else(x,[])
theorem Oz{x:Self}{o:ah}(ho:o∈vy x):Gk o=iu o∧o.kind=1∧o.owner=x.id∧o.key=0∧(Bt x.net.cS x.id).contains o.aj=true:=by
 obtain⟨a,ha,rfl⟩:=List.mem_map.1 ho
 exact⟨rfl,rfl,rfl,rfl,List.contains_iff_mem.2 ha⟩
theorem aeh{x:Self}(h:sC x=true)(a:Int):rZ x.id (Gl x.net.cS x.id x.heard a)=true:=by
 obtain⟨hN,iX,ta,jY,Es,cM⟩:=xZ h
 obtain⟨n1,hl,ht,hA,hT⟩:=Ou hN
 have hk:=λk hk=>cm.1 Es k hk
 unfold Gl
 refine Om ?_ ?_
 ·intro y hy
  obtain⟨k,Cd,rfl⟩:=List.mem_map.1 hy
  obtain⟨dG,o3⟩:=List.mem_filter.1 Cd
  rw[List.mem_range]at dG
  rw[decide_eq_true_eq]at o3
  have h1:=hk k dG
  simp only[bd,decide_eq_true_eq]at h1
  rw[o3]at h1
  have h2:=yX _ _ h1.1
  have hm:=oh (l:=x.net.cS) (n:=iz (tB x.id (gt x.heard (2*(k:Int))) a) x.net.cS) h1.1 (CR _ _)
  have h3:=Gd hA hm
  have h4:FW x.net.cS x.id (gt x.heard (2*(k:Int))) a=(gt x.net.cS (iz (tB x.id (gt x.heard (2*(k:Int))) a) x.net.cS)).cost:=by unfold FW;rw[if_neg (by omega)]
  rw[nw]at h2
  simp only
  rw[h4]
  omega
 ·rw[List.pairwise_map]
  have ui:∀k,k+1<x.heard.length/2->gt x.heard (2*(k:Int))*4+gt x.heard (2*(k:Int)+1)<gt x.heard (2*((k+1:Nat):Int))*4+gt x.heard (2*((k+1:Nat):Int)+1):=by
   intro k o6
   have h1:=hk (k+1) o6
   have h0:=hk k (by omega)
   simp only[bd,Bool.or_eq_true,decide_eq_true_eq,Bool.not_eq_true',decide_eq_false_iff_not]at h1 h0
   have b1:=Gd hA (oh (l:=x.net.cS) h1.1 (CR _ _))
   have c1:=nw.1 (yX _ _ h1.1)
   have b0:=Gd hA (oh (l:=x.net.cS) h0.1 (CR _ _))
   have c0:=nw.1 (yX _ _ h0.1)
   have h2:=h1.2.resolve_left (by omega)
   rw[show(2:Int)*((k+1:Nat):Int)-2=2*(k:Int) by omega,show(2:Int)*((k+1:Nat):Int)-1=2*(k:Int)+1 by omega]at h2
   omega
  have xG:∀d k,k+1+d<x.heard.length/2->gt x.heard (2*(k:Int))*4+gt x.heard (2*(k:Int)+1)<gt x.heard (2*((k+1+d:Nat):Int))*4+gt x.heard (2*((k+1+d:Nat):Int)+1):=by
   intro d
   induction d with
   |zero=>intro k o6;exact ui k o6
   |succ d ih=>intro k o6;exact Int.lt_trans (ih k (by omega)) (ui (k+1+d) o6)
  refine(List.pairwise_lt_range.filter _).imp_of_mem λ{i j} hi hj qL=>?_
  obtain⟨o5,iU⟩:=List.mem_filter.1 hi
  obtain⟨hj1,uQ⟩:=List.mem_filter.1 hj
  rw[List.mem_range]at o5 hj1
  rw[decide_eq_true_eq]at iU uQ
  have:=xG (j-i-1) i (by omega)
  rw[show i+1+(j-i-1)=j by omega,iU,uQ]at this
  show gt x.heard (2*(i:Int))<gt x.heard (2*(j:Int))
  omega
theorem aei{x:Self}(h:sC x=true){o:ah}(ho:o∈vy x):dz (Gk o)=true:=by
 have iX:=(xZ h).2.1
 have hN:=(Ou (xZ h).1).1
 obtain⟨a,ha,rfl⟩:=List.mem_map.1 ho
 have h2:=Ot ha
 have h3:=aeh h a
 unfold dz
 simp only[Ow,Gk,if_true,bd,aG]
 refine⟨⟨by omega,by omega⟩,?_⟩
 simp[aG,h2,h3]
theorem aej(s:List ah)(r:ah):eU s r<s.length:=CR _ _
theorem aek{r:ah}(h:dz r=true):1<=r.seq∧r.seq<=100000:=by
 unfold dz at h
 simp only[bd,aG]at h
 exact h.1.2
theorem OA{s:List ah}(h:ey s=true)(r:ah):0<=uu s r∧uu s r<=100000:=by
 unfold uu
 split
 ·omega
 ·have:=aek (Br h (oh (l:=s) (n:=eU s r) (by omega) (aej s r)))
  omega
theorem OB{x:Self}(h:ey x.store=true)(hb:0<=x.j6∧x.j6<=90)(r:ah):1<=Bx x r∧Bx x r<=100001:=by
 have:=OA h r
 unfold Bx
 split<;>omega
section
variable (x:Self) (W:List ah) (t2 t3 t4:T)
end
theorem ael{x:Self}(h:ey x.store=true)(hb:0<=x.j6∧x.j6<=90)(W:List ah):∀r∈vA x W,1<=r.seq:=by
 have hp:∀(c:List ah) (r:ah),1<=r.seq->(∀y∈c,1<=y.seq)->∀y∈eJ c r,1<=y.seq:=by
  intro c r h1 h2 y hy
  rcases zd hy with rfl|hy
  ·exact h1
  ·exact h2 y hy
 have h1:∀(l c:List ah),(∀y∈c,1<=y.seq)->∀y∈l.foldl (Bz x) c,1<=y.seq:=by
  intro l
  induction l with
  |nil=>intro c h;exact h
  |cons a l ih=>
   intro c hc
   rw[List.foldl_cons]
   refine ih _ ?_
   unfold Bz
   split
   ·exact hp _ _ (OB h hb a).1 hc
   ·exact hc
 have h2:∀(l c:List ah),(∀y∈c,1<=y.seq)->∀y∈l.foldl (ya x W) c,1<=y.seq:=by
  intro l
  induction l with
  |nil=>intro c h;exact h
  |cons a l ih=>
   intro c hc
   rw[List.foldl_cons]
   refine ih _ ?_
   unfold ya
   split
   ·exact hp _ _ (OB h hb a).1 hc
   ·exact hc
 exact h2 _ _ (h1 _ _ (by simp))
def Gr(x:Self):Self×List ah:=if sC x=true then Oy x (x_ x (byR x.store x.id (vy x)))else(x,[])
def vB(k:Nat)(c:List ah):Prop:=Fit k c∧∀y∈c,1<=y.seq
theorem vB.put{k:Nat}{c:List ah}(h:vB k c){r:ah}(hr:r.aQ.length<=1048576)(hq:1<=r.seq):vB (k+1) (eJ c r):=
 ⟨h.1.put hr,λy hy=>by
  rcases zd hy with rfl|hy
  ·exact hq
  ·exact h.2 y hy⟩
theorem vB.mono{k k':Nat}{c:List ah}(h:vB k c)(hk:k<=k'):vB k' c:=⟨h.1.mono hk,h.2⟩
theorem aem{r:ah}(h:dz (iu r)=true){q:Int}(hq:1<=q∧q<=100000):dz {r with seq:=q}=true:=by
 unfold dz at h⊢
 simp only[iu,bd,aG]at h⊢
 exact⟨⟨h.1.1,hq⟩,h.2⟩
theorem aen{r:ah}(h:dz r=true):dz (iu (tF r))=true:=by
 have hk:=Oo h
 unfold dz at h⊢
 unfold tF
 simp only[bd,aG]at h
 by_cases h1:r.kind=1
 ·have h2:=h.2
  rw[if_pos h1]at h2
  simp only[bd,aG,decide_eq_true_eq,Bool.not_eq_true']at h2
  rw[if_pos h1]
  simp only[iu,h1,if_true,bd,aG,decide_eq_true_eq,Bool.not_eq_true']
  exact⟨⟨h.1.1,by omega⟩,⟨⟨⟨h2.1.1.1.1,h2.1.1.1.2⟩,by simp[rZ,ln]⟩,h2.1.2⟩,h2.2⟩
 ·have h2:=h.2
  rw[if_neg h1]at h2
  rw[if_neg h1]
  simp only[iu,h1,if_false,bd,aG]
  refine⟨⟨h.1.1,by omega⟩,?_⟩
  by_cases h3:r.kind=2
  ·rw[if_pos h3]at h2⊢
   simp only[bd,aG,decide_eq_true_eq,Bool.not_eq_true']at h2⊢
   exact⟨⟨⟨⟨h2.1.1.1.1,h2.1.1.1.2⟩,rfl⟩,by omega⟩,h2.2⟩
  ·rw[if_neg h3]at h2⊢
   by_cases h4:r.kind=3
   ·rw[if_pos h4]at h2⊢
    simp only[bd,Bool.or_eq_true,aG,decide_eq_true_eq]at h2
    have q1:=h2.1.1.1
    have q2:=h2.1.1.2
    simp[q1,q2,aG]
   ·rw[if_neg h4]at h2;cases h2
theorem aeo{x:Self}(h:sC x=true)(S:List ah):∀w∈x_ x S,dz (iu w)=true:=by
 obtain⟨hN,iX,ta,jY,Es,cM⟩:=xZ h
 obtain⟨n1,hl,ht,hA,hT⟩:=Ou hN
 have il:∀(l s:List ah),(∀r∈s,dz (iu r)=true)->(∀r∈l,dz (iu r)=true)->∀r∈nV same s l,dz (iu r)=true:=by
  intro l
  induction l with
  |nil=>intro s h1 _;exact h1
  |cons a l ih=>
   intro s h1 h2
   refine ih (eJ s (same a)) (λr hr=>?_) λr hr=>h2 r (.tail _ hr)
   rcases zd hr with e|hr
   ·rw[e];exact h2 a (.head _)
   ·exact h1 r hr
 refine il _ _ (by simp) λr hr=>?_
 rcases List.mem_append.1 hr with hr|hr
 ·rcases List.mem_append.1 hr with hr|hr
  ·rw[<-(Oz hr).1];exact aei h hr
  ·unfold Bw at hr
   split at hr
   ·obtain⟨a,ha,hr⟩:=List.mem_flatMap.1 hr
    exact(ad3 (by omega) (Ot ha) hr).1
   ·cases hr
 ·obtain⟨t,iN,rfl⟩:=List.mem_map.1 hr
  have h3:=ad6 hT (List.mem_filter.1 iN).1
  unfold dz
  simp only[iu,Gm,bd,aG]
  refine⟨⟨by omega,by omega⟩,?_⟩
  simp[aG,h3]
theorem aep{x:Self}(h:sC x=true)(S:List ah)(hq:(vA x (x_ x S)).all (λr=>decide (r.seq<=100000))=true):∀r∈vA x (x_ x S),dz r=true:=by
 obtain⟨hN,iX,ta,jY,Es,cM⟩:=xZ h
 have hw:=aeo h S
 have key:∀r∈vA x (x_ x S),∃b q,dz (iu b)=true∧r={b with seq:=q}:=by
  have h1:∀(l c:List ah),(∀w∈l,dz (iu w)=true)->(∀y∈c,∃b q,dz (iu b)=true∧y={b with seq:=q})->∀y∈l.foldl (Bz x) c,∃b q,dz (iu b)=true∧y={b with seq:=q}:=by
   intro l
   induction l with
   |nil=>intro c _ h;exact h
   |cons a l ih=>
    intro c hl hc
    rw[List.foldl_cons]
    refine ih _ (λw hw=>hl w (.tail _ hw)) λy hy=>?_
    unfold Bz at hy
    split at hy
    ·rcases zd hy with rfl|hy
     ·exact⟨a,_,hl a (.head _),rfl⟩
     ·exact hc y hy
    ·exact hc y hy
  have h2:∀(l c:List ah),(∀w∈l,dz w=true)->(∀y∈c,∃b q,dz (iu b)=true∧y={b with seq:=q})->∀y∈l.foldl (ya x (x_ x S)) c,∃b q,dz (iu b)=true∧y={b with seq:=q}:=by
   intro l
   induction l with
   |nil=>intro c _ h;exact h
   |cons a l ih=>
    intro c hl hc
    rw[List.foldl_cons]
    refine ih _ (λw hw=>hl w (.tail _ hw)) λy hy=>?_
    unfold ya at hy
    split at hy
    ·rcases zd hy with rfl|hy
     ·exact⟨tF a,_,aen (hl a (.head _)),rfl⟩
     ·exact hc y hy
    ·exact hc y hy
  exact h2 _ _ (λw hw=>Br cM hw) (h1 _ _ hw (by simp))
 intro r hr
 have hs:=ael cM ta (x_ x S) r hr
 have lm:=List.all_eq_true.1 hq r hr
 rw[decide_eq_true_eq]at lm
 obtain⟨b,q,hb,rfl⟩:=key r hr
 exact aem hb ⟨hs,lm⟩
def tH(r:ah):ah:=⟨r.aj,r.kind,r.owner,r.key,r.seq,[],if r.kind=3 then 1 else 0,false⟩
def Gs(s:List ah)(ar:Int):List ah:=(scope s ar).map tH
theorem aeq(a k o y s:Int)(t5 t6 t7:T):HW [ii a,ii k,ii o,ii y,ii s,t5,t6,t7]=some [ii a,ii k,ii o,ii y,ii s,.l [],ii (if k=3 then 1 else 0),bb false]:=by
 rw[aaW]
 by_cases h:k=3
 ·subst h;simp(disch:=omega) only[↓pq,↓pj,ps,pz,↓reduceIte,aq,au,av,aw,ax,ay,az,aA,aB,RV]
 ·simp(disch:=omega) only[↓pq,↓pj,ps,pz,↓reduceIte,aq,au,av,aw,ax,ay,az,aA,aB,RV,h]
def wl(e:nf):nf:=⟨e.node,e.aj,if 0>e.left-1 then 0 else e.left-1,e.both&&decide ((if 0>e.left-1 then 0 else e.left-1)>0)⟩
def BA(n:Node):Node:=⟨(Gr {n.self with heard:=wi (n.ng.map wl)}).1,n.ng.map wl⟩
theorem OC{n:Node}(h:CZ n=true):sC n.self=true∧n.ng.length=(F1 n.self.net.cS n.self.id n.self.net.n).length∧n.ng.length<=18:=by
 unfold CZ xU at h
 simp only[bd,decide_eq_true_eq]at h
 have hN:=Ou (xZ h.1).1
 have:=adb n.self.net.cS n.self.id n.self.net.n (by omega)
 exact⟨h.1,by omega,by omega⟩
abbrev u8(n:Int):T:=.c (.int .u8 n)
def fD(n:Int):List T:=[u8 n]
def Gu:List Ty:=[.i .u8]
def pe(n:Int):Prop:=0<=n∧n<=255
theorem aer(r:List T)(h:gu Gu r):∃n,r=fD n∧pe n:=by
 obtain⟨_,_,rfl,⟨n,rfl,hn⟩,rfl⟩:=EX h
 refine⟨n,rfl,?_⟩
 simp[Lit.wf,IntKind.min,IntKind.max,IntKind.signed,IntKind.bits]at hn
 unfold pe;omega
theorem OD{l:List Int}{n:Int}(h:0<=n)(h':n<l.length):Prim.ev (.cell 1 0) [.l (l.map fD),ii n]=some (u8 (gt l n)):=rb h (jE h h') rfl rfl
theorem OE{n:Int}(h:0<=n)(h':n<=255):Prim.ev (.dA .i64) [u8 n]=some (ii n):=by
 simp only[Prim.ev,yS (n:=n) (by omega) (by omega)]
theorem OG(a:Int):∃x,Prim.ev (.bin .and) [ii a,ii 255]=some (ii x)∧0<=x∧x<=255:=by
 have h:(BitVec.ofInt 64 a&&&BitVec.ofInt 64 255).toNat<=255:=by
  rw[BitVec.toNat_and]
  exact Nat.le_trans Nat.and_le_right (by decide)
 refine⟨((BitVec.ofInt 64 a&&&BitVec.ofInt 64 255).toNat:Nat),?_,by omega,by omega⟩
 simp only[Prim.ev,T.val,fh,Option.bind_some,if_true]
 show some (ii (IntKind.i64.wrap (((BitVec.ofInt 64 a&&&BitVec.ofInt 64 255).toNat:Nat):Int)))=_
 rw[yS (by omega) (by omega)]
theorem aes(a b:Int):∃x,Prim.ev (.bin .and) [ii a,ii b]=some (ii x):=⟨_,by simp only[Prim.ev,T.val,fh,Option.bind_some,if_true];rfl⟩
theorem aet(a b:Int):∃x,Prim.ev (.bin .xor) [ii a,ii b]=some (ii x):=⟨_,by simp only[Prim.ev,T.val,fh,Option.bind_some,if_true];rfl⟩
theorem aeu(a:Int):∃x,Prim.ev (.bin .shr) [ii a,.c (.int .u64 33)]=some (ii x):=⟨_,by simp only[Prim.ev,T.val,fh,Option.bind_some];rfl⟩
theorem aev(a:Int):∃x,Prim.ev (.bin .shr) [ii a,.c (.int .u64 45)]=some (ii x):=⟨_,by simp only[Prim.ev,T.val,fh,Option.bind_some];rfl⟩
theorem IH{B:List Int}(hB:∀x∈B,pe x)(hl:B.length<=1048576){i:Int}(h:Int)(hi:0<=i)(bw:i<=B.length):
  ∃x i' h',rY [.l (B.map fD),ii i,ii h]=some [ii x,.l (B.map fD),ii i',ii h']∧(0<=x∧x<=255)∧0<=i'∧i'<=B.length:=by
 rw[ZU]
 obtain⟨m,hm⟩:∃m,Prim.ev (.bin .mul) [ii h,ii 6364136223846793005]=some (ii m):=⟨_,EZ _ _ _⟩
 obtain⟨g,hg⟩:∃g,Prim.ev (.bin .add) [ii m,ii 1442695040888963407]=some (ii g):=⟨_,CK _ _ _⟩
 obtain⟨s1,h1⟩:=aeu g
 obtain⟨s2,h2⟩:=aev g
 obtain⟨x0,h3⟩:=aet s1 s2
 obtain⟨x1,h4,r1,r2⟩:=OG x0
 have hn:Prim.ev .len [.l (B.map fD)]=some (ii B.length):=Fl
 by_cases hc:i<B.length
 ·have hx:=hB _ (oh hi hc)
  obtain⟨x2,h5,r3,r4⟩:=OG (x1+gt B i)
  have hb:=HJ (enc:=fD) hi hc
  refine⟨x2,i+1,g,?_,⟨r3,r4⟩,by omega,by omega⟩
  have w1:=hx.1
  have w2:=hx.2
  simp(disch:=omega) only[↓pq,↓pj,ps,pz,↓reduceIte,aq,au,av,aw,ax,ay,az,aA,aB,RK,hm,hg,h1,h2,h3,h4,hn,hc,hb,OD hi hc,OE w1 w2,h5]
 ·refine⟨x1,i,g,?_,⟨r1,r2⟩,hi,bw⟩
  simp(disch:=omega) only[↓pq,↓pj,ps,pz,↓reduceIte,aq,au,av,aw,ax,ay,az,aA,aB,RK,hm,hg,h1,h2,h3,h4,hn,hc]
theorem nW{B:List Int}(hB:∀x∈B,pe x)(hl:B.length<=1048576){i:Int}(h:Int)(hi:0<=i)(bw:i<=B.length)(n:Int)(hn:1<=n)(fi:n<=4294967296):
  ∃x i' h',j8 [.l (B.map fD),ii i,ii h,ii n]=some [ii x,.l (B.map fD),ii i',ii h']∧(0<=x∧x<n)∧0<=i'∧i'<=B.length:=by
 rw[ZW]
 have h0:¬n<=0:=by omega
 obtain⟨x,i1,h1,e1,r1,p1,p2⟩:=IH hB hl h hi bw
 have hz:n≠0:=by omega
 by_cases hc:n<=256
 ·refine⟨x.tmod n,i1,h1,?_,⟨Int.tmod_nonneg _ r1.1,Int.tmod_lt_of_pos _ (by omega)⟩,p1,p2⟩
  simp(disch:=omega) only[↓pq,↓pj,ps,pz,↓reduceIte,aq,au,av,aw,ax,ay,az,aA,aB,RL,h0,hc,e1,hz]
 ·obtain⟨y,i2,h2,e2,r2,p3,p4⟩:=IH hB hl h1 p1 p2
  obtain⟨z,i3,h3,e3,r3,p5,p6⟩:=IH hB hl h2 p3 p4
  obtain⟨w,i4,h4,e4,r4,p7,p8⟩:=IH hB hl h3 p5 p6
  refine⟨(x*16777216+y*65536+z*256+w).tmod n,i4,h4,?_,⟨Int.tmod_nonneg _ (by omega),Int.tmod_lt_of_pos _ (by omega)⟩,p7,p8⟩
  simp(disch:=omega) only[↓pq,↓pj,ps,pz,↓reduceIte,aq,au,av,aw,ax,ay,az,aA,aB,RL,h0,hc,e1,e2,e3,e4,hz]
theorem Sd{B:List Int}(hB:∀x∈B,pe x)(hl:B.length<=1048576){i:Int}(h:Int)(hi:0<=i)(bw:i<=B.length)(n:Int)(hn:1<=n)(fi:n<=4294967296):
  ∃x i' h',Ba [.l (B.map fD),ii i,ii h,ii n]=some [bb x,.l (B.map fD),ii i',ii h']∧0<=i'∧i'<=B.length:=by
 rw[ZZ]
 obtain⟨x,i1,h1,e1,r1,p1,p2⟩:=nW hB hl h hi bw n hn fi
 refine⟨x==0,i1,h1,?_,p1,p2⟩
 simp(disch:=omega) only[↓pq,↓pj,ps,pz,↓reduceIte,aq,au,av,aw,ax,ay,az,aA,aB,ZX,e1]
 try rfl
theorem wm{B:List Int}(hB:∀x∈B,pe x)(hl:B.length<=1048576){i:Int}(h:Int)(hi:0<=i)(bw:i<=B.length)(l:List Int)(hn:1<=l.length)(fi:l.length<=1048576):
  ∃x i' h',v_ [.l (B.map fD),ii i,ii h,.l (l.map bu)]=some [ii x,.l (B.map fD),ii i',ii h']∧x∈l∧0<=i'∧i'<=B.length:=by
 rw[Z2]
 obtain⟨x,i1,h1,e1,r1,p1,p2⟩:=nW hB hl h hi bw l.length (by omega) (by omega)
 have:=r1.1
 have:=r1.2
 refine⟨gt l x,i1,h1,?_,oh r1.1 r1.2,p1,p2⟩
 simp(disch:=omega) only[↓pq,↓pj,ps,pz,↓reduceIte,aq,au,av,aw,ax,ay,az,aA,aB,Z0,e1]
theorem Gv{β σ:Type}{F:(σ->Option β)->σ->Option β}(mA:Option β->Prop)(Inv:Nat->σ->Prop)(step:∀m s q,Inv m s->(∀m' s',m'<m->Inv m' s'->mA (q s'))->mA (F q s)):
  ∀m s R,Inv m s->m<R->mA (iter F R s)
 |m,s,0,_,hR=>absurd hR (Nat.not_lt_zero _)
 |m,s,R+1,hI,hR=>by
  unfold iter
  exact step m s _ hI λm' s' hm hI'=>Gv mA Inv step m' s' R hI' (by omega)
theorem Gw{B:List Int}(hB:∀x∈B,pe x)(hl:B.length<=1048576){F:ai->ai}{mA:Option (List T)->Prop}
  (hF:∀q (h:Int) (k:Nat),(k:Int)<B.length->(k:Int)<4000->∃h',F q [ii h,ii k]=q [ii h',ii (k+1)])
  (fin:∀q (h:Int) (k:Nat),(k<=B.length∧k<=4000∧(¬(k:Int)<B.length∨¬(k:Int)<4000))->mA (F q [ii h,ii k]))(h:Int):mA (iter F rounds [ii h,ii 0]):=by
 refine Gv mA (λm s=>∃(h:Int) (k:Nat),s=[ii h,ii k]∧k<=B.length∧k<=4000∧m=4000-k) ?_ 4000 _ rounds ⟨h,0,rfl,by omega,by omega,rfl⟩ (by unfold rounds;omega)
 rintro m s q ⟨h,k,rfl,h1,h2,rfl⟩ hq
 by_cases c1:(k:Int)<B.length
 ·by_cases c2:(k:Int)<4000
  ·obtain⟨h',e⟩:=hF q h k c1 c2
   rw[e]
   exact hq (4000-(k+1)) _ (by omega) ⟨h',k+1,by rw[yW],by omega,by omega,rfl⟩
  ·exact fin q h k ⟨h1,h2,.inr c2⟩
 ·exact fin q h k ⟨h1,h2,.inl c1⟩
def tI{α:Type}(lt:α->α->Bool)(L:List α)(x:α):List α:=L.filter (λy=>lt y x)++[x]++L.filter (λy=>lt x y)
theorem aew{α:Type}{lt:α->α->Bool}(asy:∀a b,lt a b=true->lt b a=false)(L:List α)(x:α):(tI lt L x).length<=L.length+1:=by
 have:∀L:List α,(L.filter (λy=>lt y x)).length+(L.filter (λy=>lt x y)).length<=L.length:=by
  intro L
  induction L with
  |nil=>simp
  |cons y L ih=>
   have:=asy y x
   cases h1:lt y x<;>cases h2:lt x y<;>simp_all<;>omega
 have:=this L
 simp only[tI,List.length_append,List.length_singleton];omega
theorem OH{α:Type} [Inhabited α]{ok:α->Bool}{lt:α->α->Bool}(tr:∀a b c,lt a b=true->lt b c=true->lt a c=true){L:List α}(h:gn ok lt L=true)(dP:∀y∈L,ok y=true){x:α}(hx:ok x=true):gn ok lt (tI lt L x)=true:=by
 have hp:=Oj tr h
 refine Gi (λy hy=>?_) ?_
 ·simp only[tI,List.mem_append,List.mem_filter,List.mem_singleton]at hy
  rcases hy with(hy|hy)|hy
  ·exact dP y hy.1
  ·rw[hy];exact hx
  ·exact dP y hy.1
 ·unfold tI
  rw[List.pairwise_append,List.pairwise_append]
  refine⟨⟨hp.filter _,List.pairwise_singleton _ _,?_⟩,hp.filter _,?_⟩
  ·intro a ha b hb
   rw[List.mem_singleton]at hb
   rw[hb];exact(List.mem_filter.1 ha).2
  ·intro a ha b hb
   have hb:=(List.mem_filter.1 hb).2
   rcases List.mem_append.1 ha with ha|ha
   ·exact tr _ _ _ (List.mem_filter.1 ha).2 hb
   ·rw[List.mem_singleton]at ha
    rw[ha];exact hb
theorem yb{α:Type} [Inhabited α]{ok:α->Bool}{lt:α->α->Bool}{l:List α}(h:gn ok lt l=true):∀x∈l,ok x=true:=by
 intro x hx
 obtain⟨i,hi,rfl⟩:=List.mem_iff_getElem.1 hx
 have:=cm.1 h i hi
 simp only[bd]at this
 have h1:=this.1
 rwa[gL hi]at h1
theorem aex(a b c:dX)(h1:vt a b=true)(h2:vt b c=true):vt a c=true:=by simp only[vt,decide_eq_true_eq]at *;omega
theorem aey(a b:dX)(h1:vt a b=true):vt b a=false:=by simp only[vt,decide_eq_true_eq,decide_eq_false_iff_not]at *;omega
theorem aez(a b c:j5)(h1:Bo a b=true)(h2:Bo b c=true):Bo a c=true:=by simp only[Bo,decide_eq_true_eq]at *;omega
def yc(n:Int)(L:List dX):Prop:=gn (FV n) vt L=true∧L.length<=12
def yd(n:Int)(L:List j5):Prop:=gn (IB n) Bo L=true
theorem yc.put{n:Int}{L:List dX}(h:yc n L)(hl:L.length<12){a b c d:Int}(hn:2<=n∧n<=6)(ha:1<=a)(q9:a<b)(hb:b<=n)(hc:1<=c∧c<=1000)(hd:0<=d∧d<=2):yc n (tI vt L ⟨a,b,c,d⟩):=by
 refine⟨OH aex h.1 (yb h.1) ?_,?_⟩
 ·simp only[FV,eQ,bd,decide_eq_true_eq];omega
 ·have:=aew aey L ⟨a,b,c,d⟩
  omega
theorem yd.put{n:Int}{L:List j5}(h:yd n L){a b c:Int}{d:Bool}(ha:1<=a∧a<=n)(hb:1<=b∧b<=9)(hc:1<=c∧c<=1000):yd n (tI Bo L ⟨a,b,c,d⟩):=by
 refine OH aez h (yb h) ?_
 simp only[IB,eQ,bd,decide_eq_true_eq];omega
theorem yc.nil{n:Int}:yc n []:=⟨rfl,by simp⟩
theorem yd.nil{n:Int}:yd n []:=rfl
theorem II(a b c d:Int):Prim.ev (.lit 1 [true,true,true,true]) [ii a,ii b,ii c,ii d]=some (.l ([a,b,c,d].map bu)):=by simp[Prim.ev,mQ,kY,cF,bu]
theorem Gx{B:List Int}(hB:∀x∈B,pe x)(hl:B.length<=1048576)(h:Int){k:Nat}(hc:(k:Int)<B.length):
  ∃m a c d,Prim.ev (.bin .mul) [ii h,ii 131]=some (ii m)∧Prim.ev .ic [.l (B.map fD),ii k]=some (bb true)∧Prim.ev (.cell 1 0) [.l (B.map fD),ii k]=some (u8 (gt B k))∧Prim.ev (.dA .i64) [u8 (gt B k)]=some (ii (gt B k))∧
   Prim.ev (.bin .add) [ii m,ii (gt B k)]=some (ii a)∧Prim.ev (.bin .add) [ii a,ii 7]=some (ii c)∧Prim.ev (.bin .and) [ii c,ii 1073741823]=some (ii d):=by
 have hx:=hB _ (oh (l:=B) (n:=(k:Int)) (by omega) hc)
 obtain⟨m,hm⟩:∃m,Prim.ev (.bin .mul) [ii h,ii 131]=some (ii m):=⟨_,EZ _ _ _⟩
 obtain⟨a,ha⟩:∃a,Prim.ev (.bin .add) [ii m,ii (gt B k)]=some (ii a):=⟨_,CK _ _ _⟩
 obtain⟨c,Cv⟩:∃c,Prim.ev (.bin .add) [ii a,ii 7]=some (ii c):=⟨_,CK _ _ _⟩
 obtain⟨d,hd⟩:=aes c 1073741823
 exact⟨m,a,c,d,hm,HJ (by omega) hc,OD (by omega) hc,OE hx.1 hx.2,ha,Cv,hd⟩
def BB(o:Option (List T)):Prop:=∃l:List Int,o=some [.l (l.map bu)]∧l.length=12∧∀x∈l,0<=x∧x<10000
theorem OI{B:List Int}(hB:∀x∈B,pe x)(hl:B.length<=1048576){i h:Int}(hi:0<=i)(bw:i<=B.length):
  BB (iter (y_ j8) rounds [.l [],ii 0,.l (B.map fD),ii i,ii h]):=by
 refine Gv BB (λm s=>∃(k:Nat) (i h:Int) (L:List Int),s=[.l (L.map bu),ii k,.l (B.map fD),ii i,ii h]∧k<=12∧(0<=i∧i<=B.length)∧L.length=k∧(∀x∈L,0<=x∧x<10000)∧m=12-k) ?_ 12 _ rounds ⟨0,i,h,[],rfl,by omega,⟨hi,bw⟩,rfl,by simp,rfl⟩ (by unfold rounds;omega)
 rintro m s q ⟨k,i,h,L,rfl,hk,⟨hi,bw⟩,hL,hA,rfl⟩ hq
 by_cases hc:(k:Int)<12
 ·obtain⟨x,i,h,e,hx,hi,bw⟩:=nW hB hl h hi bw 10000 (by omega) (by omega)
  simp(disch:=omega) only[↓pq,↓pj,ps,pz,↓reduceIte,aq,au,av,aw,ax,ay,az,aA,aB,y_,FM,FN,y_,hc,e]
  refine hq (12-(k+1)) _ (by omega) ⟨k+1,i,h,_,by rw[yW],by omega,⟨hi,bw⟩,by simp[hL],λy hy=>?_,rfl⟩
  rcases List.mem_append.1 hy with hy|hy
  ·exact hA y hy
  ·rw[List.mem_singleton]at hy;subst hy;exact hx
 ·simp(disch:=omega) only[↓pq,↓pj,ps,pz,↓reduceIte,aq,au,av,aw,ax,ay,az,aA,aB,y_,FM,FN,y_,hc]
  exact⟨L,rfl,by omega,hA⟩
theorem aeA{B:List Int}(hB:∀x∈B,pe x)(hl:B.length<=1048576):BB (H9 [.l (B.map fD)]):=by
 rw[abS]
 have hn:Prim.ev .len [.l (B.map fD)]=some (ii B.length):=Fl
 simp(disch:=omega) only[↓pq,↓pj,ps,pz,↓reduceIte,aq,au,av,aw,ax,ay,az,aA,aB,y_,FM,FN,qF_,hn]
 refine Gw hB hl (mA:=BB) ?_ ?_ _
 ·intro q h k c1 c2
  obtain⟨m,a,c,d,e1,e2,e3,e4,e5,e6,e7⟩:=Gx hB hl h c1
  exact⟨d,by simp(disch:=omega) only[↓pq,↓pj,ps,pz,↓reduceIte,aq,au,av,aw,ax,ay,az,aA,aB,y_,FM,FN,hn,c1,c2,e1,e2,e3,e4,e5,e6,e7]⟩
 ·intro q h k hk
  obtain⟨x,i,h',e,hx,hi,bw⟩:=IH hB hl h (i:=0) (by omega) (by omega)
  by_cases c1:(k:Int)<B.length
  ·have c2:¬(k:Int)<4000:=by omega
   simp(disch:=omega) only[↓pq,↓pj,ps,pz,↓reduceIte,aq,au,av,aw,ax,ay,az,aA,aB,y_,FM,FN,hn,c1,c2,e]
   exact OI hB hl hi bw
  ·simp(disch:=omega) only[↓pq,↓pj,ps,pz,↓reduceIte,aq,au,av,aw,ax,ay,az,aA,aB,y_,FM,FN,hn,c1,e]
   exact OI hB hl hi bw
theorem aeB(ts:List T)(h:gu [.sl Gu] ts):∃B:List Int,ts=[.l (B.map fD)]∧∀x∈B,pe x:=by
 obtain⟨t1,_,rfl,q1,rfl⟩:=EX h
 unfold WT at q1
 obtain⟨z1,rfl,m1,g1⟩:=q1
 obtain⟨B,rfl,hB⟩:=Ng aer g1
 exact⟨B,rfl,hB⟩
theorem aeC(B:List Int):vm [.l (B.map fD)]=some [bb (decide ((B.length:Int)>1048576))]:=by
 have hn:Prim.ev .len [.l (B.map fD)]=some (ii B.length):=Fl
 rw[ZS]
 simp(disch:=omega) only[↓pq,↓pj,ps,pz,↓reduceIte,aq,au,av,aw,ax,ay,az,aA,aB,Ft,hn]
 try rfl
def ri(a:Int):Prop:=1<=a∧a<=6
inductive Pa (s:List ah) (ar:Int):Int->Int->Int->Prop
 |nil {a:Int} (h:ri a):Pa s ar a a 0
 |cons {a u b n:Int} (h:ri a) (hc:ej s ar a u≠0) (p:Pa s ar u b n):Pa s ar a b (ej s ar a u+n)
theorem Pa.l{s:List ah}{ar a b n:Int}(h:Pa s ar a b n):ri a:=by cases h<;>assumption
theorem Pa.r{s:List ah}{ar a b n:Int}(h:Pa s ar a b n):ri b:=by induction h<;>assumption
theorem Pa.nn{s:List ah}(hs:ey s=true){ar a b n:Int}(h:Pa s ar a b n):0<=n∧(n=0->a=b):=by
 induction h with
 |nil=>exact⟨by omega,λ_=>rfl⟩
 | @cons a u b n h hc p ih=>
  have:=IE hs ar a u
  exact⟨by omega,λh=>by omega⟩
theorem Pa.snoc{s:List ah}{ar a u v n:Int}(h:Pa s ar a u n)(hc:ej s ar u v≠0)(hv:ri v):Pa s ar a v (n+ej s ar u v):=by
 induction h with
 |nil h=>rw[Int.zero_add];have:=Pa.cons h hc (.nil hv);rwa[Int.add_zero]at this
 |cons h Au p ih=>rw[Int.add_assoc];exact .cons h Au (ih hc)
theorem Pa.app{s:List ah}{ar a u v n m:Int}(h:Pa s ar a u n)(h':Pa s ar u v m):Pa s ar a v (n+m):=by
 induction h with
 |nil h=>rwa[Int.zero_add]
 |cons h Au p ih=>rw[Int.add_assoc];exact .cons h Au (ih h')
theorem Pa.last{s:List ah}{ar a v n:Int}(h:Pa s ar a v n):(a=v∧n=0)∨∃p m,Pa s ar a p m∧ej s ar p v≠0∧n=m+ej s ar p v:=by
 induction h with
 |nil h=>exact .inl ⟨rfl,rfl⟩
 | @cons a u b n h hc p ih=>
  right
  rcases ih with⟨rfl,rfl⟩|⟨p',m,h1,h2,h3⟩
  ·exact⟨a,0,.nil h,hc,by omega⟩
  ·exact⟨p',ej s ar a u+m,.cons h hc h1,h2,by omega⟩
def ye(s:List ah)(ar fr a:Int)(W:List Way)(v:Int):Way:=
 if ej s ar a v=0∨v=fr then gt W v
 else if(gt W v).to=0∨(gt W a).cost+ej s ar a v<(gt W v).cost then⟨v,(gt W a).cost+ej s ar a v,if a=fr then [v]else(gt W a).cf⟩
 else if(gt W a).cost+ej s ar a v=(gt W v).cost then r8 (gt W v) ⟨v,(gt W a).cost+ej s ar a v,if a=fr then [v]else(gt W a).cf⟩
 else gt W v
theorem aeD{s:List ah}(hs:ey s=true)(ar fr:Int){a:Int}(ha:ri a){W:List Way}(hl7:W.length=7){v:Int}(hv:ri v):gt (r9 s ar fr a W) v=ye s ar fr a W v:=by
 have hl:(List.range 6).length=6:=List.length_range
 have haa:ye s ar fr a W a=gt W a:=by unfold ye;rw[if_pos (.inl (F9 hs ar a))]
 have key:=Nt (l:=List.range 6) (g:=qM s ar fr a) (c:=W) (Inv:=λi W'=>W'.length=7∧∀u:Int,ri u->gt W' u=if u<=i then ye s ar fr a W u else gt W u)
  ⟨hl7,λu hu=>by rw[if_neg (by have:=hu.1;omega)]⟩ λi W' hi ⟨h1,h2⟩=>by
  rw[hl]at hi
  rw[gL (by rw[hl];omega),List.getElem_range]
  have wj:i<6:=by omega
  have ga:gt W' a=gt W a:=by rw[h2 a ha];split<;>simp[haa]
  have gi:gt W' ((i:Int)+1)=gt W ((i:Int)+1):=by rw[h2 _ ⟨by omega,by omega⟩,if_neg (by omega)]
  have hlen:(qM s ar fr a W' i).length=7:=by
   unfold qM
   split
   ·exact h1
   ·split
    ·simp[h1]
    ·split
     ·simp[h1]
     ·exact h1
  refine⟨hlen,λu hu=>?_⟩
  have Se:0<=u:=by have:=hu.1;omega
  by_cases he:u=(i:Int)+1
  ·subst he
   rw[if_pos (by omega)]
   unfold qM ye
   rw[gi,ga]
   split
   ·rw[gi]
   ·split
    ·rw[uq h1 wj Se,if_pos rfl]
    ·split
     ·rw[uq h1 wj Se,if_pos rfl]
     ·rw[gi]
  ·have:gt (qM s ar fr a W' i) u=gt W' u:=by
    unfold qM
    split
    ·rfl
    ·split
     ·rw[uq h1 wj Se,if_neg he]
     ·split
      ·rw[uq h1 wj Se,if_neg he]
      ·rfl
   rw[this,h2 u hu]
   exact A' ⟨λh=>by omega,λh=>by omega⟩ _ _
 rw[hl]at key
 have:=key.2 v hv
 rwa[if_pos (show v<=((6:Nat):Int) by have:=hv.2;omega)]at this
structure DI (s:List ah) (ar fr:Int) (W:List Way) (D:List Int):Prop where
 fr0:(gt W fr).to=fr∧(gt W fr).cost=0
 snd:∀v,ri v->(gt W v).to≠0->Pa s ar fr v (gt W v).cost
 rel:∀p∈D,∀v,ri v->ej s ar p v≠0->(gt W v).to≠0∧(gt W v).cost<=(gt W p).cost+ej s ar p v
 dh:∀v,ri v->v≠fr->(gt W v).to≠0->∀h,h∈(gt W v).cf↔∃p∈D,ej s ar p v≠0∧(gt W p).cost+ej s ar p v=(gt W v).cost∧(if p=fr then h=v else h∈(gt W p).cf)
theorem DI.start{s:List ah}{ar fr:Int}(h:ri fr):DI s ar fr (W0 fr) []:=by
 have g:∀v,ri v->(gt (W0 fr) v).to≠0->v=fr:=λv hv hn=>by
  have h1:=hv.1
  have h2:=hv.2
  rw[vu h (by omega) (by omega)]at hn
  split at hn
  ·rename_i e;exact e.symm
  ·exact absurd rfl hn
 have g0:gt (W0 fr) fr=⟨fr,0,[]⟩:=by have h1:=h.1;have h2:=h.2;rw[vu h (by omega) (by omega),if_pos rfl]
 refine⟨by rw[g0];exact⟨rfl,rfl⟩,λv hv hn=>?_,by simp,λv hv cW hn=>absurd (g v hv hn) cW⟩
 have:=g v hv hn
 subst this
 rw[g0];exact .nil h
theorem aeE{a b:Way}(ha:mO a.cf)(hb:mO b.cf)(he:a.cost=b.cost)(h:Int):h∈(r8 a b).cf↔h∈a.cf∨h∈b.cf:=by
 unfold r8
 rw[if_neg (by omega),if_neg (by omega),N3]
 constructor
 ·exactλh=>h.2
 ·exactλh'=>⟨h'.elim (ha.2 h) (hb.2 h),h'⟩
theorem DI.step{s:List ah}(hs:ey s=true){ar fr:Int}{W:List Way}{D:List Int}(hI:nU fr W D)(h:DI s ar fr W D)(hb:gp W D≠0):DI s ar fr (r9 s ar fr (gp W D) W) (D++[gp W D]):=by
 obtain⟨h1,h2,h3,h4⟩:=(N9 W D).resolve_left λe=>hb e.1
 generalize ha:gp W D=a at*
 have hl:=hI.ok.len
 have aS:=λv (hv:ri v)=>aeD hs ar fr (a:=a) h1 hl hv
 have ho:∀v,ri v->mO (gt W v).cf:=λv hv=>hI.ok.cf v (by have:=hv.1;omega) (by have:=hv.2;omega)
 have iT:∀v,ri v->mO (if a=fr then [v]else(gt W a).cf):=λv hv=>by
  split
  ·exact N4 hv.1 hv.2
  ·exact ho a h1
 have hD:∀p,p∈D∨p=a->gt (r9 s ar fr a W) p=gt W p∧ri p:=by
  intro p hp
  rcases hp with hp|rfl
  ·have hm:=hI.mem p hp
   refine⟨?_,hm.1⟩
   rw[aS p hm.1]
   unfold ye
   have hmo:=hI.mono p hp a h1.1 h1.2 h3 h2
   have hk:=IE hs ar a p
   by_cases q1:ej s ar a p=0∨p=fr
   ·rw[if_pos q1]
   rw[if_neg q1,if_neg,if_neg]
   ·intro e;have:ej s ar a p≠0:=λe=>q1 (.inl e);omega
   ·rintro(e|e)
    ·exact hm.2 e
    ·omega
  ·refine⟨?_,h1⟩
   rw[aS p h1];unfold ye;rw[if_pos (.inl (F9 hs ar p))]
 have Ad:ri fr:=hI.R_
 refine⟨?_,λv hv hn=>?_,λp hp v hv hc=>?_,λv hv cW hn x=>?_⟩
 ·rw[aS fr Ad];unfold ye;rw[if_pos (.inr rfl)];exact h.fr0
 ·rw[aS v hv]at hn⊢
  unfold ye at hn⊢
  by_cases q1:ej s ar a v=0∨v=fr
  ·rw[if_pos q1]at hn⊢;exact h.snd v hv hn
  rw[if_neg q1]at hn⊢
  have OJ:=(h.snd a h1 h2).snoc (λe=>q1 (.inl e)) hv
  by_cases q2:(gt W v).to=0∨(gt W a).cost+ej s ar a v<(gt W v).cost
  ·rw[if_pos q2];exact OJ
  rw[if_neg q2]at hn⊢
  by_cases q3:(gt W a).cost+ej s ar a v=(gt W v).cost
  ·rw[if_pos q3]
   rcases IF (gt W v) ⟨v,(gt W a).cost+ej s ar a v,if a=fr then [v]else(gt W a).cf⟩with e|e
   ·rw[e];exact h.snd v hv λe=>q2 (.inl e)
   ·rw[e];exact OJ
  ·rw[if_neg q3];exact h.snd v hv λe=>q2 (.inl e)
 ·have qC:p∈D∨p=a:=by simpa using hp
  obtain⟨g1,g2⟩:=hD p qC
  rw[g1,aS v hv]
  unfold ye
  by_cases OJ:p=a
  ·rw[OJ]at hc⊢
   by_cases q1:v=fr
   ·subst q1
    rw[if_pos (.inr rfl)]
    have:=IE hs ar a v
    have h5:=hI.ok.cost a (by omega) (by omega)
    have h6:=h.fr0
    have:=hv.1
    refine⟨by omega,by omega⟩
   ·rw[if_neg (λe=>e.elim hc q1)]
    split
    ·exact⟨by show v≠0;have:=hv.1;omega,by show(gt W a).cost+_<=_;omega⟩
    ·rename_i q2
     split
     ·rename_i q3
      have pS:=(hI.ok.to v (by have:=hv.1;omega) (by have:=hv.2;omega)).resolve_left (λe=>q2 (.inl e))
      rw[xW pS rfl]
      refine⟨by have:=hv.1;omega,?_⟩
      rcases IF (gt W v) ⟨v,(gt W a).cost+ej s ar a v,if a=fr then [v]else(gt W a).cf⟩with e|e
      ·rw[e];omega
      ·rw[e];exact Int.le_refl _
     ·exact⟨λe=>q2 (.inl e),by omega⟩
  ·have hpD:=qC.resolve_right OJ
   obtain⟨k1,k2⟩:=h.rel p hpD v hv hc
   split
   ·exact⟨k1,k2⟩
   ·split
    ·rename_i q2
     have q3:=q2.resolve_left k1
     exact⟨by show v≠0;have:=hv.1;omega,by show(gt W a).cost+_<=_;omega⟩
    ·split
     ·have pS:=(hI.ok.to v (by have:=hv.1;omega) (by have:=hv.2;omega)).resolve_left k1
      rw[xW pS rfl]
      refine⟨by have:=hv.1;omega,?_⟩
      rcases IF (gt W v) ⟨v,(gt W a).cost+ej s ar a v,if a=fr then [v]else(gt W a).cf⟩with e|e
      ·rw[e];exact k2
      ·rename_i q3;rw[e];show(gt W a).cost+_<=_;omega
     ·exact⟨k1,k2⟩
 ·
  have uC:∀c:Int,(∃p∈D++[a],ej s ar p v≠0∧(gt (r9 s ar fr a W) p).cost+ej s ar p v=c∧(if p=fr then x=v else x∈(gt (r9 s ar fr a W) p).cf))↔
    ((∃p∈D,ej s ar p v≠0∧(gt W p).cost+ej s ar p v=c∧(if p=fr then x=v else x∈(gt W p).cf))∨(ej s ar a v≠0∧(gt W a).cost+ej s ar a v=c∧x∈(if a=fr then [v]else(gt W a).cf))):=by
   intro c
   have ea:(if a=fr then x=v else x∈(gt W a).cf)↔x∈(if a=fr then [v]else(gt W a).cf):=by
    split<;>simp
   constructor
   ·rintro⟨p,hp,k1,k2,k3⟩
    have qC:p∈D∨p=a:=by simpa using hp
    rw[(hD p qC).1]at k2 k3
    rcases qC with qC|rfl
    ·exact .inl ⟨p,qC,k1,k2,k3⟩
    ·exact .inr ⟨k1,k2,ea.1 k3⟩
   ·rintro(⟨p,hp,k1,k2,k3⟩|⟨k1,k2,k3⟩)
    ·exact⟨p,by simp[hp],k1,by rw[(hD p (.inl hp)).1];exact k2,by rw[(hD p (.inl hp)).1];exact k3⟩
    ·exact⟨a,by simp,k1,by rw[(hD a (.inr rfl)).1];exact k2,by rw[(hD a (.inr rfl)).1];exact ea.2 k3⟩
  rw[aS v hv]at hn⊢
  rw[uC]
  unfold ye at hn⊢
  by_cases q1:ej s ar a v=0
  ·rw[if_pos (.inl q1)]at hn⊢
   rw[h.dh v hv cW hn]
   exact⟨.inl,λk=>k.resolve_right λk=>k.1 q1⟩
  rw[if_neg (λe=>e.elim q1 cW)]at hn⊢
  by_cases q2:(gt W v).to=0∨(gt W a).cost+ej s ar a v<(gt W v).cost
  ·rw[if_pos q2]at hn⊢
   show x∈(if a=fr then [v]else(gt W a).cf)↔_
   constructor
   ·exactλk=>.inr ⟨q1,rfl,k⟩
   ·rintro(⟨p,hp,k1,k2,k3⟩|⟨_,_,k⟩)
    ·obtain⟨k4,k5⟩:=h.rel p hp v hv k1
     rcases q2 with q2|q2
     ·exact absurd q2 k4
     ·have k2:(gt W p).cost+ej s ar p v=(gt W a).cost+ej s ar a v:=k2
      omega
    ·exact k
  rw[if_neg q2]at hn⊢
  have OK:(gt W v).to≠0:=λe=>q2 (.inl e)
  by_cases q3:(gt W a).cost+ej s ar a v=(gt W v).cost
  ·rw[if_pos q3]
   have OL:(r8 (gt W v) ⟨v,(gt W a).cost+ej s ar a v,if a=fr then [v]else(gt W a).cf⟩).cost=(gt W v).cost:=by
    rcases IF (gt W v) ⟨v,(gt W a).cost+ej s ar a v,if a=fr then [v]else(gt W a).cf⟩with e|e
    ·exact e
    ·rw[e];exact q3
   rw[OL,aeE (ho v hv) (iT v hv) q3.symm,h.dh v hv cW OK]
   constructor
   ·exactλk=>k.imp_right λk=>⟨q1,q3,k⟩
   ·exactλk=>k.imp_right λk=>k.2.2
  ·rw[if_neg q3]
   rw[h.dh v hv cW OK]
   exact⟨.inl,λk=>k.resolve_right λk=>q3 k.2.1⟩
section
variable {x:Net} {L U:List Bool}
end
theorem OM(s:List ah)(r:ah):eU s r<s.length:=CR _ _
theorem aeF{s:List ah}(h:lq s){a b:ah}(ha:a∈s)(hb:b∈s)(hk:eW a b=true):a=b:=by
 obtain⟨i,hi,e1⟩:=List.mem_iff_getElem.1 ha
 obtain⟨j,hj,e2⟩:=List.mem_iff_getElem.1 hb
 have hp:=List.pairwise_iff_getElem.1 h
 rw[sameKey_iff]at hk
 rcases Nat.lt_trichotomy i j with qL|qL|qL
 ·have:=hp i j hi hj qL
  rw[e1,e2]at this
  rw[tC]at this
  omega
 ·subst qL;rw[<-e1,<-e2]
 ·have:=hp j i hj hi qL
  rw[e1,e2]at this
  rw[tC]at this
  omega
theorem Gy{s:List ah}{r:ah}(h:0<=eU s r):gt s (eU s r)∈s∧eW (gt s (eU s r)) r=true:=
 ⟨oh h (OM s r),yX (λx:ah=>eW x r) s h⟩
theorem aeG{s:List ah}{r:ah}(h:eU s r<0):∀x∈s,eW x r=false:=(Ns _ _).1 h
theorem ON{s:List ah}{r x:ah}(hx:x∈s)(hk:eW x r=true):0<=eU s r:=Gj hx hk
theorem aeH{s:List ah}(hs:lq s){r x:ah}(hx:x∈s)(hk:eW x r=true):gt s (eU s r)=x:=by
 obtain⟨h1,h2⟩:=Gy (ON hx hk)
 refine aeF hs h1 hx ?_
 rw[sameKey_iff]at*
 omega
def vC(s:List ah)(r:ah):Bool:=dz r&&(if 0<=eU s r then decide ((gt s (eU s r)).seq<r.seq)else decide (s.length<150))
def nX(s:List ah)(r:ah):List ah:=if vC s r=true then eJ s r else s
theorem OO{s:List ah}(h:ey s=true):s.length<=150:=by
 unfold ey at h
 simp only[bd,decide_eq_true_eq]at h
 exact h.1
theorem Gz{s:List ah}(h1:lq s)(h2:∀r∈s,dz r=true)(h3:s.length<=150):ey s=true:=by
 unfold ey
 simp only[bd,decide_eq_true_eq]
 exact⟨h3,Gi h2 h1⟩
theorem OP{s:List ah}(h:ey s=true):cK s:=λr hr=>by
 have:=Bv (Br h hr)
 omega
theorem OQ{α:Type}{p q:α->Bool}(hpq:∀a,p a=true->q a=false):∀{l:List α} {x:α},x∈l->p x=false->q x=false->(l.filter p).length+(l.filter q).length+1<=l.length
 |a::l,x,hx,hp,hq=>by
  have gen:∀l:List α,(l.filter p).length+(l.filter q).length<=l.length:=by
   intro l
   induction l with
   |nil=>simp
   |cons a l ih=>
    have:=hpq a
    cases h1:p a<;>cases h2:q a<;>simp_all<;>omega
  rcases List.mem_cons.1 hx with rfl|hx
  ·have:=gen l
   simp only[List.filter_cons,hp,hq,du,if_false,List.length_cons]
   omega
  ·have ih:=OQ hpq hx hp hq
   have:=hpq a
   cases h1:p a<;>cases h2:q a<;>simp_all<;>omega
theorem aeJ{s:List ah}{r:ah}(h:0<=eU s r):(eJ s r).length<=s.length:=by
 obtain⟨h1,h2⟩:=Gy h
 rw[sameKey_iff]at h2
 have:=OQ (p:=λx=>gC x r) (q:=λx=>gC r x) (λa ha=>by
  rw[<-Bool.not_eq_true]
  intro hb
  rw[tC]at ha hb
  omega) h1 (by rw[<-Bool.not_eq_true,tC];omega) (by rw[<-Bool.not_eq_true,tC];omega)
 unfold eJ
 simp only[List.length_append,List.length_singleton]
 omega
theorem aeK{s:List ah}(h:ey s=true){r:ah}(hr:dz r=true)(hk:0<=eU s r∨s.length<150):ey (eJ s r)=true:=by
 have hl:=OO h
 refine Gz (R8 (C0 h) r) (λx hx=>?_) ?_
 ·rcases zd hx with rfl|hx
  ·exact hr
  ·exact Br h hx
 ·rcases hk with hk|hk
  ·have:=aeJ hk;omega
  ·have:=F4 s r;omega
theorem aeL{s:List ah}(h:ey s=true)(r:ah):ey (nX s r)=true:=by
 unfold nX
 split
 ·rename_i hi
  unfold vC at hi
  simp only[bd]at hi
  refine aeK h hi.1 ?_
  split at hi
  ·rename_i h0;exact .inl h0
  ·exact .inr (by simpa using hi.2)
 ·exact h
theorem kS_(s:List ah)(r:ah)(hl:s.length<=1048570)(hn:cK s)(C3:lq s)(hr:r.aQ.length<=1048576):
  HO [.l (s.map bq),ii r.aj,ii r.kind,ii r.owner,ii r.key,ii r.seq,.l (r.aQ.map dD),ii r.cost,bb r.gM]=some [.l ((nX s r).map bq),bb (vC s r)]:=by
 have e2:=jZ_ r.aj r.kind r.owner r.key r.seq r.aQ r.cost r.gM hr
 have e3:=ade s r.aj r.kind r.owner r.key (ii r.seq) (.l (r.aQ.map dD)) (ii r.cost) (bb r.gM) (by omega)
 have e4:=adl s r.aj r.kind r.owner r.key r.seq r.aQ r.cost r.gM (by omega) hn hr
 rw[adf]at e3
 have bI:=OM s r
 rw[aao]
 unfold nX
 have hB:vC s r=(dz r&&(if 0<=eU s r then decide ((gt s (eU s r)).seq<r.seq)else decide (s.length<150))):=rfl
 cases hk:dz r with
 |false=>
  rw[show dz ⟨r.aj,r.kind,r.owner,r.key,r.seq,r.aQ,r.cost,r.gM⟩=dz r from rfl,hk]at e2
  rw[hB,hk]
  simp(disch:=omega) only[↓pq,↓pj,ps,pz,↓reduceIte,aq,au,av,aw,ax,ay,az,aA,aB,Fy,e2,e3,du]
  simp
 |true=>
  rw[show dz ⟨r.aj,r.kind,r.owner,r.key,r.seq,r.aQ,r.cost,r.gM⟩=dz r from rfl,hk]at e2
  by_cases h0:0<=eU s r
  ·rw[hB,hk,if_pos h0]
   have h1:eU s r>=0:=h0
   have h2:¬eU s r<0:=by omega
   by_cases hq:(gt s (eU s r)).seq<r.seq
   ·have yf:¬(gt s (eU s r)).seq>=r.seq:=by omega
    simp(disch:=omega) only[↓pq,↓pj,ps,pz,↓reduceIte,aq,au,av,aw,ax,ay,az,aA,aB,Fy,e2,e3,h1,h2,bI,yf,e4]
    simp[hq]
   ·have yf:(gt s (eU s r)).seq>=r.seq:=by omega
    simp(disch:=omega) only[↓pq,↓pj,ps,pz,↓reduceIte,aq,au,av,aw,ax,ay,az,aA,aB,Fy,e2,e3,h1,h2,bI,yf]
    simp[hq]
  ·rw[hB,hk,if_neg h0]
   have h1:¬eU s r>=0:=h0
   have h2:eU s r<0:=by omega
   by_cases hq:s.length<150
   ·have yf:¬(s.length:Int)>=150:=by omega
    simp(disch:=omega) only[↓pq,↓pj,ps,pz,↓reduceIte,aq,au,av,aw,ax,ay,az,aA,aB,Fy,e2,e3,h1,h2,yf,e4]
    simp[hq]
   ·have yf:(s.length:Int)>=150:=by omega
    simp(disch:=omega) only[↓pq,↓pj,ps,pz,↓reduceIte,aq,au,av,aw,ax,ay,az,aA,aB,Fy,e2,e3,h1,h2,yf]
    simp[hq]
theorem aeM{x:Self}(h:sC x=true){s:List ah}(hs:ey s=true):sC {x with store:=s}=true:=by
 unfold sC at*
 simp only[bd]at*
 exact⟨h.1,h.2.1,h.2.2.1,h.2.2.2.1,hs⟩
theorem GA(a b c d e:Int):Prim.ev (.lit 1 [true,true,true,true,true]) [ii a,ii b,ii c,ii d,ii e]=some (.l ([a,b,c,d,e].map bu)):=by simp[Prim.ev,mQ,kY,cF,bu]
def OR(B:List Int)(o:Option (List T)):Prop:=
 ∃(r:ah) (i' h':Int),o=some [ii r.aj,ii r.kind,ii r.owner,ii r.key,ii r.seq,.l (r.aQ.map dD),ii r.cost,bb r.gM,.l (B.map fD),ii i',ii h']∧(dz r=true∧r.seq<=5∧r.owner<=4)∧0<=i'∧i'<=B.length
theorem aeN{a o s:Int}{l:List bA}(ha:0<=a∧a<=2)(ho:1<=o∧o<=6)(hs:1<=s∧s<=100000)(hl:rZ o l=true):dz ⟨a,1,o,0,s,l,0,false⟩=true:=by
 unfold dz
 simp only[bd,aG]
 refine⟨⟨ho,hs⟩,?_⟩
 simp[aG,ha,hl]
theorem aeO{a o k s c:Int}(ha:0<=a∧a<=2)(ho:1<=o∧o<=6)(hk:1<=k∧k<=6)(hs:1<=s∧s<=100000)(hc:0<=c∧c<=60000):dz ⟨a,2,o,k,s,[],c,false⟩=true:=by
 unfold dz
 simp only[bd,aG]
 refine⟨⟨ho,hs⟩,?_⟩
 simp[aG,ha,hk,hc]
theorem aeP{o k s c:Int}{f:Bool}(ho:1<=o∧o<=6)(hk:1<=k∧k<=9)(hs:1<=s∧s<=100000)(hc:(1<=c∧c<=1000)∨c=60000):dz ⟨9,3,o,k,s,[],c,f⟩=true:=by
 unfold dz
 simp only[bd,aG]
 refine⟨⟨ho,hs⟩,?_⟩
 simp[aG,hk,hc]
set_option maxHeartbeats 1000000 in
theorem OS{B:List Int}(hB:∀x∈B,pe x)(hl:B.length<=1048576){i:Int}(h:Int)(hi:0<=i)(bw:i<=B.length):OR B (Bb [.l (B.map fD),ii i,ii h]):=by
 rw[Z4]
 obtain⟨k,i,h,e1,r1,hi,bw⟩:=nW hB hl h hi bw 3 (by omega) (by omega)
 obtain⟨o,i,h,e2,r2,hi,bw⟩:=nW hB hl h hi bw 4 (by omega) (by omega)
 obtain⟨a,i,h,e3,r3,hi,bw⟩:=nW hB hl h hi bw 3 (by omega) (by omega)
 obtain⟨s,i,h,e4,r4,hi,bw⟩:=nW hB hl h hi bw 5 (by omega) (by omega)
 by_cases c1:1+k=1
 ·simp(disch:=omega) only[↓pq,↓pj,ps,pz,↓reduceIte,aq,au,av,aw,ax,ay,az,aA,aB,wc,NQ,e1,e2,e3,e4,c1]
  refine Gv (OR B) (λm st=>∃(v:Nat) (i h:Int) (l:List bA),st=[ii ((v:Int)+1),.l (B.map fD),ii i,ii h,.l (l.map dD)]∧v<=6∧(0<=i∧i<=B.length)∧(l.length<=v∧(l.Pairwise λx y=>x.to<y.to)∧∀x∈l,(1<=x.to∧x.to<=v)∧x.to≠1+o∧1<=x.cost∧x.cost<=1000)∧m=6-v) ?_ 6
   [ii 1,.l (B.map fD),ii i,ii h,.l []] rounds ⟨0,i,h,[],rfl,by omega,⟨hi,bw⟩,⟨by simp,.nil,by simp⟩,rfl⟩ (by unfold rounds;omega)
  rintro m st q ⟨v,i,h,l,rfl,hv,⟨hi,bw⟩,⟨mX,qX,Sf⟩,rfl⟩ hq
  by_cases c2:(v:Int)+1<=6
  ·have same:(l.Pairwise λx y=>x.to<y.to)∧∀x∈l,(1<=x.to∧x.to<=((v+1:Nat):Int))∧x.to≠1+o∧1<=x.cost∧x.cost<=1000:=⟨qX,λx hx=>by have:=Sf x hx;omega⟩
   by_cases c3:(v:Int)+1=1+o
   ·simp(disch:=omega) only[↓pq,↓pj,ps,pz,↓reduceIte,aq,au,av,aw,ax,ay,az,aA,aB,wc,wc,c2,eq_true c3]
    exact hq (6-(v+1)) _ (by omega) ⟨v+1,i,h,l,by rw[yW],by omega,⟨hi,bw⟩,⟨by omega,same⟩,rfl⟩
   ·obtain⟨f,i,h,e5,hi,bw⟩:=Sd hB hl h hi bw 3 (by omega) (by omega)
    cases f with
    |false=>
     simp(disch:=omega) only[↓pq,↓pj,ps,pz,↓reduceIte,aq,au,av,aw,ax,ay,az,aA,aB,wc,wc,c2,c3,e5,du]
     exact hq (6-(v+1)) _ (by omega) ⟨v+1,i,h,l,by rw[yW],by omega,⟨hi,bw⟩,⟨by omega,same⟩,rfl⟩
    |true=>
     obtain⟨c,i,h,e6,r6,hi,bw⟩:=nW hB hl h hi bw 4 (by omega) (by omega)
     have GC:Prim.ev (.lit 2 [true,true]) [ii ((v:Int)+1),ii (1+c)]=some (.l ([(⟨(v:Int)+1,1+c⟩:bA)].map dD)):=by simp[Prim.ev,mQ,kY,cF,dD]
     have GD:Prim.ev (.app true 2) [.l (l.map dD),.l ([(⟨(v:Int)+1,1+c⟩:bA)].map dD)]=some (.l ((l++[(⟨(v:Int)+1,1+c⟩:bA)]).map dD)):=W8 (l:=l) (by omega)
     simp(disch:=omega) only[↓pq,↓pj,ps,pz,↓reduceIte,aq,au,av,aw,ax,ay,az,aA,aB,wc,wc,c2,c3,e5,e6,GC,GD]
     refine hq (6-(v+1)) _ (by omega) ⟨v+1,i,h,l++[⟨(v:Int)+1,1+c⟩],by rw[yW],by omega,⟨hi,bw⟩,⟨by simp;omega,?_,?_⟩,rfl⟩
     ·rw[List.pairwise_append]
      refine⟨qX,List.pairwise_singleton _ _,λx hx y hy=>?_⟩
      rw[List.mem_singleton]at hy
      rw[hy]
      have:=Sf x hx
      show x.to<(v:Int)+1
      omega
     ·intro x hx
      rcases List.mem_append.1 hx with hx|hx
      ·have:=Sf x hx;omega
      ·rw[List.mem_singleton]at hx
       rw[hx]
       exact⟨⟨by show 1<=(v:Int)+1;omega,by show(v:Int)+1<=_;omega⟩,c3,by show 1<=1+c;omega,by show 1+c<=1000;omega⟩
  ·simp(disch:=omega) only[↓pq,↓pj,ps,pz,↓reduceIte,aq,au,av,aw,ax,ay,az,aA,aB,wc,wc,c2]
   refine⟨⟨a,1,1+o,0,1+s,l,0,false⟩,i,h,rfl,⟨aeN (by omega) (by omega) (by omega) (Om (λx hx=>?_) qX),by show 1+s<=5;omega,by show 1+o<=4;omega⟩,hi,bw⟩
   have:=Sf x hx
   omega
 ·by_cases c2:1+k=2
  ·obtain⟨y,i,h,e5,r5,hi,bw⟩:=nW hB hl h hi bw 5 (by omega) (by omega)
   obtain⟨c,i,h,e6,r6,hi,bw⟩:=wm hB hl h hi bw [0,1,2,5,60000] (by simp) (by simp)
   have r6:0<=c∧c<=60000:=by simp at r6;omega
   simp(disch:=omega) only[↓pq,↓pj,ps,pz,↓reduceIte,aq,au,av,aw,ax,ay,az,aA,aB,wc,NQ,e1,e2,e3,e4,c2,e5,GA,e6]
   exact⟨⟨a,2,1+o,1+y,1+s,[],c,false⟩,i,h,rfl,⟨aeO (by omega) (by omega) (by omega) (by omega) r6,by show 1+s<=5;omega,by show 1+o<=4;omega⟩,hi,bw⟩
  ·have c3:1+k=3:=by omega
   obtain⟨y,i,h,e5,r5,hi,bw⟩:=nW hB hl h hi bw 3 (by omega) (by omega)
   obtain⟨c,i,h,e6,r6,hi,bw⟩:=wm hB hl h hi bw [1,2,5,60000] (by simp) (by simp)
   obtain⟨f,i,h,e7,hi,bw⟩:=Sd hB hl h hi bw 2 (by omega) (by omega)
   have r6:(1<=c∧c<=1000)∨c=60000:=by simp at r6;omega
   simp(disch:=omega) only[↓pq,↓pj,ps,pz,↓reduceIte,aq,au,av,aw,ax,ay,az,aA,aB,wc,NQ,e1,e2,e3,e4,c3,e5,II,e6,e7]
   exact⟨⟨9,3,1+o,1+y,1+s,[],c,f⟩,i,h,rfl,⟨aeP (by omega) (by omega) (by omega) r6,by show 1+s<=5;omega,by show 1+o<=4;omega⟩,hi,bw⟩
def nY(n:Nat)(s:List ah):Prop:=ey s=true∧s.length<=n∧(∀r∈s,r.seq<=5)∧(s.filter pW).length+(if n<100 then 0 else 119)<=n
theorem nY.ins{n:Nat}{s:List ah}(h:nY n s){r:ah}(hr:r.seq<=5)(hn:n≠99):nY (n+1) (nX s r):=by
 refine⟨aeL h.1 r,?_,λx hx=>?_,?_⟩
 ·have:=h.2.1
  unfold nX
  split
  ·have:=F4 s r;omega
  ·omega
 ·unfold nX at hx
  split at hx
  ·rcases zd hx with rfl|hx
   ·exact hr
   ·exact h.2.2.1 x hx
  ·exact h.2.2.1 x hx
 ·have h3:=h.2.2.2
  have h4:=kk_ s r pW
  have:((nX s r).filter pW).length<=(s.filter pW).length+1:=by
   unfold nX
   split
   ·split at h4<;>omega
   ·omega
  split at h3<;>split<;>omega
theorem nY.nil:nY 0 []:=⟨rfl,by simp,by simp,by simp⟩
theorem nY.mono{n m:Nat}{s:List ah}(h:nY n s)(hm:n<=m)(hk:n+119<=m∨100<=n∨m<100):nY m s:=by
 refine⟨h.1,Nat.le_trans h.2.1 hm,h.2.2.1,?_⟩
 have h3:=h.2.2.2
 have h4:(s.filter pW).length<=n:=Nat.le_trans (List.length_filter_le _ _) h.2.1
 split at h3<;>split<;>omega
theorem OT{B:List Int}(hB:∀x∈B,pe x)(hl:B.length<=1048576){i:Int}(h:Int)(hi:0<=i)(bw:i<=B.length):
  ∃(s:List ah) (i' h':Int),HP [.l (B.map fD),ii i,ii h]=some [.l (s.map bq),.l (B.map fD),ii i',ii h']∧nY 11 s∧0<=i'∧i'<=B.length:=by
 rw[aar];simp(disch:=omega) only[↓pq,↓pj,ps,pz,↓reduceIte,aq,au,av,aw,ax,ay,az,aA,aB,RO,jQ_]
 refine Gv (λo=>∃(s:List ah) (i' h':Int),o=some [.l (s.map bq),.l (B.map fD),ii i',ii h']∧nY 11 s∧0<=i'∧i'<=B.length)
  (λm st=>∃(k:Nat) (i h:Int) (s:List ah),st=[.l (s.map bq),ii k,.l (B.map fD),ii i,ii h]∧k<=11∧(0<=i∧i<=B.length)∧nY k s∧m=11-k) ?_ 11 [.l [],ii 0,.l (B.map fD),ii i,ii h] rounds ⟨0,i,h,[],rfl,by omega,⟨hi,bw⟩,nY.nil,rfl⟩ (by unfold rounds;omega)
 rintro m st q ⟨k,i,h,s,rfl,hk,⟨hi,bw⟩,hs,rfl⟩ hq
 obtain⟨d,i,h,e1,r1,hi,bw⟩:=nW hB hl h hi bw 12 (by omega) (by omega)
 by_cases c1:(k:Int)<d
 ·obtain⟨r,i,h,e2,⟨r2,r3,_⟩,hi,bw⟩:=OS hB hl h hi bw
  have qu:=hs.2.1
  have e3:=kS_ s r (by omega) (OP hs.1) (C0 hs.1) (by have:=Bv r2;omega)
  simp(disch:=omega) only[↓pq,↓pj,ps,pz,↓reduceIte,aq,au,av,aw,ax,ay,az,aA,aB,RO,e1,c1,e2,e3]
  exact hq (11-(k+1)) _ (by omega) ⟨k+1,i,h,nX s r,by rw[yW],by omega,⟨hi,bw⟩,hs.ins r3 (by omega),rfl⟩
 ·simp(disch:=omega) only[↓pq,↓pj,ps,pz,↓reduceIte,aq,au,av,aw,ax,ay,az,aA,aB,RO,e1,c1]
  exact⟨s,i,h,rfl,hs.mono hk (.inr (.inr (by decide))),hi,bw⟩
def vD(P:List (Int×Int)):List Int:=P.flatMap λp=>[p.1,p.2]
theorem OU(P:List (Int×Int)):(vD P).length=2*P.length:=by
 induction P with
 |nil=>rfl
 |cons p P ih=>show(p.1::p.2::vD P).length=_;simp[ih];omega
theorem OV:∀(P:List (Int×Int)) (k:Nat) (h:k<P.length),(vD P)[2*k]?=some P[k].1∧(vD P)[2*k+1]?=some P[k].2
 |p::P,0,_=>⟨rfl,rfl⟩
 |p::P,k+1,h=>by
  have ih:=OV P k (by simpa using h)
  show(p.1::p.2::vD P)[2*(k+1)]?=_∧(p.1::p.2::vD P)[2*(k+1)+1]?=_
  rw[show 2*(k+1)=2*k+1+1 by omega]
  simpa using ih
def BC(p q:Int×Int):Prop:=p.1<q.1∨p.1=q.1∧p.2<q.2
theorem aeQ{ok:Int->Int->Bool}{P:List (Int×Int)}(h1:P.Pairwise BC)(h2:∀p∈P,ok p.1 p.2=true):xS ok (vD P)=true:=by
 unfold xS
 rw[cm,OU]
 intro k hk
 have o6:k<P.length:=by omega
 have g:∀k:Nat,(h:k<P.length)->gt (vD P) (2*(k:Int))=P[k].1∧gt (vD P) (2*(k:Int)+1)=P[k].2:=by
  intro k h
  have:=OV P k h
  rw[show(2*(k:Int))=((2*k:Nat):Int) by omega,show(((2*k:Nat):Int)+1)=((2*k+1:Nat):Int) by omega]
  exact⟨Fj this.1,Fj this.2⟩
 obtain⟨g1,g2⟩:=g k o6
 rw[g1,g2]
 simp only[bd,Bool.or_eq_true,Bool.not_eq_true',decide_eq_false_iff_not,decide_eq_true_eq]
 refine⟨h2 _ (List.getElem_mem o6),?_⟩
 rcases Nat.eq_zero_or_pos k with h0|h0
 ·exact .inl (by omega)
 ·right
  obtain⟨g3,g4⟩:=g (k-1) (by omega)
  have e:2*((k-1:Nat):Int)=2*(k:Int)-2:=by omega
  rw[e]at g3
  rw[show 2*((k-1:Nat):Int)+1=2*(k:Int)-1 by omega]at g4
  rw[g3,g4]
  exact List.pairwise_iff_getElem.1 h1 (k-1) k (by omega) o6 (by omega)
section
variable {B:List Int} (hB:∀x∈B,pe x) (hl:B.length<=1048576) {x:Net} (hx:xR x=true∧2<=x.n∧x.gN.length<=2) {id j6:Int} (iX:1<=id∧id<=x.n) (ta:0<=j6∧j6<=1)
 {P:List (Int×Int)} (hP1:P.Pairwise BC) (hP2:∀p∈P,decide (0<=iz (tB id p.1 p.2) x.cS)=true)
include hB hl hx iX ta hP1 hP2
end
theorem aeR(a b c:Int):Prim.ev (.lit 1 [true,true,true]) [ii a,ii b,ii c]=some (.l ([a,b,c].map bu)):=by simp[Prim.ev,mQ,kY,cF,bu]
theorem OW(a b c d e f:Int):Prim.ev (.lit 1 [true,true,true,true,true,true]) [ii a,ii b,ii c,ii d,ii e,ii f]=some (.l ([a,b,c,d,e,f].map bu)):=by simp[Prim.ev,mQ,kY,cF,bu]
def aeS(B:List Int)(o:Option (List T)):Prop:=
 ∃(r:ah) (i' h':Int),o=some [ii r.aj,ii r.kind,ii r.owner,ii r.key,ii r.seq,.l (r.aQ.map dD),ii r.cost,bb r.gM,.l (B.map fD),ii i',ii h']∧r.aQ.length<=7∧0<=i'∧i'<=B.length
set_option maxHeartbeats 1000000 in
theorem aeT{B:List Int}(hB:∀x∈B,pe x)(hl:B.length<=1048576){i:Int}(h:Int)(hi:0<=i)(bw:i<=B.length):aeS B (Ib [.l (B.map fD),ii i,ii h]):=by
 rw[ab0]
 obtain⟨r,i,h,e1,⟨hr,_,_⟩,hi,bw⟩:=OS hB hl h hi bw
 have hn:=Bv hr
 obtain⟨k,i,h,e2,hk,hi,bw⟩:=nW hB hl h hi bw 30 (by omega) (by omega)
 by_cases c0:k=0
 ·obtain⟨c,i,h,e3,_,hi,bw⟩:=wm hB hl h hi bw [-1,3,9,0] (by simp) (by simp)
  simp(disch:=omega) only[↓pq,↓pj,ps,pz,↓reduceIte,aq,au,av,aw,ax,ay,az,aA,aB,xP,e1,e2,c0,II,e3]
  exact⟨{r with aj:=c},i,h,rfl,(by show r.aQ.length<=7;omega),hi,bw⟩
 by_cases c1:k=1
 ·obtain⟨c,i,h,e3,_,hi,bw⟩:=wm hB hl h hi bw [0,1,2,3,4] (by simp) (by simp)
  simp(disch:=omega) only[↓pq,↓pj,ps,pz,↓reduceIte,aq,au,av,aw,ax,ay,az,aA,aB,xP,e1,e2,c1,GA,e3]
  exact⟨{r with kind:=c},i,h,rfl,(by show r.aQ.length<=7;omega),hi,bw⟩
 by_cases c2:k=2
 ·obtain⟨c,i,h,e3,_,hi,bw⟩:=wm hB hl h hi bw [0,6,7] (by simp) (by simp)
  simp(disch:=omega) only[↓pq,↓pj,ps,pz,↓reduceIte,aq,au,av,aw,ax,ay,az,aA,aB,xP,e1,e2,c2,aeR,e3]
  exact⟨{r with owner:=c},i,h,rfl,(by show r.aQ.length<=7;omega),hi,bw⟩
 by_cases c3:k=3
 ·obtain⟨c,i,h,e3,_,hi,bw⟩:=wm hB hl h hi bw [-1,0,6,7,9,10] (by simp) (by simp)
  simp(disch:=omega) only[↓pq,↓pj,ps,pz,↓reduceIte,aq,au,av,aw,ax,ay,az,aA,aB,xP,e1,e2,c3,OW,e3]
  exact⟨{r with key:=c},i,h,rfl,(by show r.aQ.length<=7;omega),hi,bw⟩
 by_cases c4:k=4
 ·obtain⟨c,i,h,e3,_,hi,bw⟩:=wm hB hl h hi bw [0,-1,100000,100001] (by simp) (by simp)
  simp(disch:=omega) only[↓pq,↓pj,ps,pz,↓reduceIte,aq,au,av,aw,ax,ay,az,aA,aB,xP,e1,e2,c4,II,e3]
  exact⟨{r with seq:=c},i,h,rfl,(by show r.aQ.length<=7;omega),hi,bw⟩
 by_cases c5:k=5
 ·obtain⟨d,i,h,e3,_,hi,bw⟩:=nW hB hl h hi bw 8 (by omega) (by omega)
  obtain⟨c,i,h,e4,_,hi,bw⟩:=wm hB hl h hi bw [0,1,1000,1001] (by simp) (by simp)
  have GC:Prim.ev (.lit 2 [true,true]) [ii d,ii c]=some (.l ([(⟨d,c⟩:bA)].map dD)):=by simp[Prim.ev,mQ,kY,cF,dD]
  have GD:Prim.ev (.app true 2) [.l (r.aQ.map dD),.l ([(⟨d,c⟩:bA)].map dD)]=some (.l ((r.aQ++[(⟨d,c⟩:bA)]).map dD)):=W8 (l:=r.aQ) (by omega)
  simp(disch:=omega) only[↓pq,↓pj,ps,pz,↓reduceIte,aq,au,av,aw,ax,ay,az,aA,aB,xP,e1,e2,c5,e3,II,e4,GC,GD]
  exact⟨{r with aQ:=r.aQ++[⟨d,c⟩]},i,h,rfl,by simp;omega,hi,bw⟩
 by_cases c6:k=6
 ·obtain⟨c,i,h,e3,_,hi,bw⟩:=wm hB hl h hi bw [-1,0,1000,1001,60000,60001] (by simp) (by simp)
  simp(disch:=omega) only[↓pq,↓pj,ps,pz,↓reduceIte,aq,au,av,aw,ax,ay,az,aA,aB,xP,e1,e2,c6,OW,e3]
  exact⟨{r with cost:=c},i,h,rfl,(by show r.aQ.length<=7;omega),hi,bw⟩
 by_cases c7:k=7
 ·simp(disch:=omega) only[↓pq,↓pj,ps,pz,↓reduceIte,aq,au,av,aw,ax,ay,az,aA,aB,xP,e1,e2,c7]
  exact⟨{r with gM:=!r.gM},i,h,rfl,(by show r.aQ.length<=7;omega),hi,bw⟩
 ·simp(disch:=omega) only[↓pq,↓pj,ps,pz,↓reduceIte,aq,au,av,aw,ax,ay,az,aA,aB,xP,e1,e2,c0,c1,c2,c3,c4,c5,c6,c7]
  exact⟨r,i,h,rfl,by omega,hi,bw⟩
def yg(r:ah):ah:=⟨r.aj,r.kind,r.owner,r.key,r.seq,[],if r.kind=3 then 1 else 0,false⟩
theorem OX(a k o y s:Int)(t5 t6 t7:T):xM [ii a,ii k,ii o,ii y,ii s,t5,t6,t7]=some [ii a,ii k,ii o,ii y,ii s,.l [],ii (if k=3 then 1 else 0),bb false]:=by
 rw[aay]
 by_cases h:k=3
 ·subst h;simp(disch:=omega) only[↓pq,↓pj,ps,pz,↓reduceIte,aq,au,av,aw,ax,ay,az,aA,aB,RQ]
 ·simp(disch:=omega) only[↓pq,↓pj,ps,pz,↓reduceIte,aq,au,av,aw,ax,ay,az,aA,aB,RQ,h]
def sD(l:List ah)(i:Nat):List ah:=(l.take i).map yg++l.drop i
theorem GF(l:List ah)(i:Nat):(sD l i).length=l.length:=by unfold sD;simp;omega
theorem aeU{l:List ah}{i:Nat}(h:i<l.length):gt (sD l i) (i:Int)=gt l (i:Int):=by
 rw[gL (l:=sD l i) (by rw[GF];exact h),gL h]
 unfold sD
 rw[List.getElem_append_right (by rw[List.length_map,List.length_take];omega)]
 simp[Nat.min_eq_left (Nat.le_of_lt h)]
theorem aeV{l:List ah}{i:Nat}(h:i<l.length):(sD l i).set i (yg (gt l (i:Int)))=sD l (i+1):=by
 have hl:((l.take i).map yg).length=i:=by rw[List.length_map,List.length_take];omega
 unfold sD
 rw[gL h,List.set_append_right _ _ (by omega),hl,Nat.sub_self,List.drop_eq_getElem_cons h,List.set_cons_zero,List.take_add_one,List.getElem?_eq_getElem h]
 simp only[Option.toList,List.map_append,List.map_cons,List.map_nil,List.append_assoc,List.cons_append,List.nil_append]
theorem OY(s:List ah)(ar:Int)(h:s.length<=1048576)(hn:cK s):HQ [.l (s.map bq),ii ar]=some [.l (((scope s ar).map yg).map bq)]:=by
 have hl:(scope s ar).length<=s.length:=List.length_filter_le _ _
 rw[aaB];simp(disch:=omega) only[↓pq,↓pj,ps,pz,↓reduceIte,aq,au,av,aw,ax,ay,az,aA,aB,RR,kU_,F2 s ar h hn]
 generalize scope s ar=l at hl
 refine ID (λi=>[ii (i:Int),.l ((sD l i).map bq)]) l.length rfl (mh (by omega)) ?_ ?_
 ·intro i hi q
  have bw:i<l.length:=by omega
  have g0:=aeU bw
  have hL:=GF l i
  have hs:=aeV bw
  have p:Prim.ev (.put false 8 0 8) [.l ((sD l i).map bq),ii (i:Int),ii (gt l (i:Int)).aj,ii (gt l (i:Int)).kind,ii (gt l (i:Int)).owner,ii (gt l (i:Int)).key,ii (gt l (i:Int)).seq,.l [],ii (if(gt l (i:Int)).kind=3 then 1 else 0),bb false]=some (.l ((sD l (i+1)).map bq)):=by
   have:=N5 (enc:=bq) (sc:=false) (w:=8) (off:=0) (m:=8) (l:=sD l i) (n:=(i:Int)) (vs:=bq (yg (gt l (i:Int)))) (x:=yg (gt l (i:Int))) (by omega) (by omega) (λ_=>rfl) (by decide) rfl rfl rfl
   rw[Int.toNat_natCast,hs]at this
   exact this
  generalize sD l (i+1)=L2 at p hs
  generalize sD l i=L at*
  have e1:(i:Int)<L.length:=by omega
  simp(disch:=omega) only[↓pq,↓pj,ps,pz,↓reduceIte,aq,au,av,aw,ax,ay,az,aA,aB,RR,e1,g0,OX,p]
 ·intro q
  have hz:¬((l.length:Int)<(sD l l.length).length):=by rw[GF];omega
  simp(disch:=omega) only[↓pq,↓pj,ps,pz,↓reduceIte,aq,au,av,aw,ax,ay,az,aA,aB,RR,hz]
  unfold sD
  simp
def PkP(B:List Int)(o:Option (List T)):Prop:=
 ∃(p:aM) (i' h':Int),o=some [ii p.kind,ii p.fS,ii p.to,ii p.aj,.l (p.heard.map bu),.l (p.list.map bq),.l (B.map fD),ii i',ii h']∧(p.heard.length<=10∧p.list.length<=200∧cK p.list)∧0<=i'∧i'<=B.length
theorem OZ{s:List ah}{n:Nat}(h:s.length<=n)(hn:cK s)(a:Int):(scope s a).length<=n∧cK (scope s a):=⟨Nat.le_trans (List.length_filter_le _ _) h,λr hr=>hn r (List.mem_filter.1 hr).1⟩
theorem O0{s:List ah}{n:Nat}(h:s.length<=n)(a:Int):((scope s a).map yg).length<=n∧cK ((scope s a).map yg):=
 ⟨by rw[List.length_map];exact Nat.le_trans (List.length_filter_le _ _) h,λr hr=>by obtain⟨y,_,rfl⟩:=List.mem_map.1 hr;simp[yg]⟩
set_option maxHeartbeats 1000000 in
theorem aeW{B:List Int}(hB:∀x∈B,pe x)(hl:B.length<=1048576){i:Int}(h:Int)(hi:0<=i)(bw:i<=B.length):PkP B (yY [.l (B.map fD),ii i,ii h]):=by
 rw[NR]
 obtain⟨k,i,h,e1,hk,hi,bw⟩:=nW hB hl h hi bw 3 (by omega) (by omega)
 obtain⟨f,i,h,e2,hf,hi,bw⟩:=nW hB hl h hi bw 4 (by omega) (by omega)
 obtain⟨a,i,h,e3,ha,hi,bw⟩:=nW hB hl h hi bw 3 (by omega) (by omega)
 have jx:(1+f).tmod 5+1<=10∧0<=(1+f).tmod 5:=by
  have h1:=Int.tmod_lt_of_pos (1+f) (show(0:Int)<5 by decide)
  have h2:=Int.tmod_nonneg 5 (show 0<=1+f by omega)
  omega
 by_cases c1:1+k=1
 ·simp(disch:=omega) only[↓pq,↓pj,ps,pz,↓reduceIte,aq,au,av,aw,ax,ay,az,aA,aB,vq,CW,e1,e2,e3,c1]
  refine Gv (PkP B) (λm st=>∃(v:Nat) (i h:Int) (l:List Int),st=[ii ((v:Int)+1),.l (B.map fD),ii i,ii h,.l (l.map bu)]∧v<=5∧(0<=i∧i<=B.length)∧l.length<=v∧m=5-v) ?_ 5 [ii 1,.l (B.map fD),ii i,ii h,.l []] rounds ⟨0,i,h,[],rfl,by omega,⟨hi,bw⟩,by simp,rfl⟩ (by unfold rounds;omega)
  rintro m st q ⟨v,i,h,l,rfl,hv,⟨hi,bw⟩,vi,rfl⟩ hq
  by_cases c2:(v:Int)+1<=5
  ·obtain⟨b,i,h,e5,hi,bw⟩:=Sd hB hl h hi bw 2 (by omega) (by omega)
   cases b with
   |false=>
    simp(disch:=omega) only[↓pq,↓pj,ps,pz,↓reduceIte,aq,au,av,aw,ax,ay,az,aA,aB,vq,c2,e5,du]
    exact hq (5-(v+1)) _ (by omega) ⟨v+1,i,h,l,by rw[yW],by omega,⟨hi,bw⟩,by omega,rfl⟩
   |true=>
    simp(disch:=omega) only[↓pq,↓pj,ps,pz,↓reduceIte,aq,au,av,aw,ax,ay,az,aA,aB,vq,c2,e5]
    exact hq (5-(v+1)) _ (by omega) ⟨v+1,i,h,l++[(v:Int)+1],by rw[yW],by omega,⟨hi,bw⟩,by simp;omega,rfl⟩
  ·simp(disch:=omega) only[↓pq,↓pj,ps,pz,↓reduceIte,aq,au,av,aw,ax,ay,az,aA,aB,vq,c2]
   exact⟨⟨1,1+f,(1+f).tmod 5+1,a,l,[]⟩,i,h,rfl,⟨by show l.length<=10;omega,by simp,by intro r hr;cases hr⟩,hi,bw⟩
 ·obtain⟨s,i,h,e4,hs,hi,bw⟩:=OT hB hl h hi bw
  have qu:=hs.2.1
  have GH:=OP hs.1
  have eS:=F2 s a (by omega) GH
  have eH:=OY s a (by omega) GH
  by_cases c2:1+k=2
  ·simp(disch:=omega) only[↓pq,↓pj,ps,pz,↓reduceIte,aq,au,av,aw,ax,ay,az,aA,aB,vq,CW,e1,e2,e3,c2,e4,eS,eH]
   exact⟨⟨2,1+f,(1+f).tmod 5+1,a,[],(scope s a).map yg⟩,i,h,rfl,⟨by simp,(O0 (n:=200) (by omega) a).1,(O0 (n:=200) (by omega) a).2⟩,hi,bw⟩
  ·simp(disch:=omega) only[↓pq,↓pj,ps,pz,↓reduceIte,aq,au,av,aw,ax,ay,az,aA,aB,vq,CW,e1,e2,e3,c1,c2,e4,eS]
   exact⟨⟨1+k,1+f,(1+f).tmod 5+1,a,[],scope s a⟩,i,h,rfl,⟨by simp,(OZ (n:=200) (by omega) GH a).1,(OZ (n:=200) (by omega) GH a).2⟩,hi,bw⟩
theorem aeX(p:aM)(h1:p.heard.length<=1048576)(h2:p.list.length<=1048576)(h3:cK p.list):
  Ia [ii p.kind,ii p.fS,ii p.to,ii p.aj,.l (p.heard.map bu),.l (p.list.map bq)]=some [ii p.kind,ii p.fS,ii p.to,ii p.aj,.l (p.heard.map bu),.l (p.list.map bq)]:=by
 rw[abY];simp(disch:=omega) only[↓pq,↓pj,ps,pz,↓reduceIte,aq,au,av,aw,ax,ay,az,aA,aB,k1_,adg _ h2 h3]
set_option maxHeartbeats 1000000 in
theorem aeY{B:List Int}(hB:∀x∈B,pe x)(hl:B.length<=1048576){i:Int}(h:Int)(hi:0<=i)(bw:i<=B.length):
  ∃(p:aM) (i' h':Int),Ic [.l (B.map fD),ii i,ii h]=some [ii p.kind,ii p.fS,ii p.to,ii p.aj,.l (p.heard.map bu),.l (p.list.map bq),.l (B.map fD),ii i',ii h']∧(p.heard.length<=11∧p.list.length<=201∧cK p.list)∧0<=i'∧i'<=B.length:=by
 rw[ab2]
 obtain⟨p,i,h,e1,⟨h1,h2,h3⟩,hi,bw⟩:=aeW hB hl h hi bw
 have e2:=aeX p (by omega) (by omega) h3
 obtain⟨k,i,h,e3,hk,hi,bw⟩:=nW hB hl h hi bw 24 (by omega) (by omega)
 have same:p.heard.length<=11∧p.list.length<=201∧cK p.list:=⟨by omega,by omega,h3⟩
 by_cases c0:k=0
 ·obtain⟨c,i,h,e4,_,hi,bw⟩:=wm hB hl h hi bw [0,1,2,3,4] (by simp) (by simp)
  simp(disch:=omega) only[↓pq,↓pj,ps,pz,↓reduceIte,aq,au,av,aw,ax,ay,az,aA,aB,CX,e1,e2,e3,c0,GA,e4]
  exact⟨{p with kind:=c},i,h,rfl,same,hi,bw⟩
 by_cases c1:k=1
 ·obtain⟨c,i,h,e4,_,hi,bw⟩:=wm hB hl h hi bw [0,6,7,p.to] (by simp) (by simp)
  simp(disch:=omega) only[↓pq,↓pj,ps,pz,↓reduceIte,aq,au,av,aw,ax,ay,az,aA,aB,CX,e1,e2,e3,c1,II,e4]
  exact⟨{p with fS:=c},i,h,rfl,same,hi,bw⟩
 by_cases c2:k=2
 ·obtain⟨c,i,h,e4,_,hi,bw⟩:=wm hB hl h hi bw [-1,0,2,3] (by simp) (by simp)
  simp(disch:=omega) only[↓pq,↓pj,ps,pz,↓reduceIte,aq,au,av,aw,ax,ay,az,aA,aB,CX,e1,e2,e3,c2,II,e4]
  exact⟨{p with aj:=c},i,h,rfl,same,hi,bw⟩
 by_cases c3:k=3
 ·obtain⟨c,i,h,e4,_,hi,bw⟩:=nW hB hl h hi bw 8 (by omega) (by omega)
  simp(disch:=omega) only[↓pq,↓pj,ps,pz,↓reduceIte,aq,au,av,aw,ax,ay,az,aA,aB,CX,e1,e2,e3,c3,e4]
  exact⟨{p with heard:=p.heard++[c]},i,h,rfl,⟨by show(p.heard++[c]).length<=11;simp;omega,same.2⟩,hi,bw⟩
 by_cases c4:k=4
 ·obtain⟨r,i,h,e4,hr,hi,bw⟩:=aeT hB hl h hi bw
  have xh:=Nn r.aj r.kind r.owner r.key r.seq r.aQ r.cost r.gM
  simp(disch:=omega) only[↓pq,↓pj,ps,pz,↓reduceIte,aq,au,av,aw,ax,ay,az,aA,aB,CX,e1,e2,e3,c4,e4,xh]
  refine⟨{p with list:=p.list++[r]},i,h,rfl,⟨same.1,by show(p.list++[r]).length<=201;simp;omega,λy hy=>?_⟩,hi,bw⟩
  rcases List.mem_append.1 hy with hy|hy
  ·exact h3 y hy
  ·rw[List.mem_singleton]at hy
   rw[hy];omega
 ·simp(disch:=omega) only[↓pq,↓pj,ps,pz,↓reduceIte,aq,au,av,aw,ax,ay,az,aA,aB,CX,e1,e2,e3,c0,c1,c2,c3,c4]
  exact⟨p,i,h,rfl,same,hi,bw⟩
theorem aeZ(r:ah):eW (tF r) r=true:=by
 unfold tF
 split<;>(rw[sameKey_iff];exact⟨rfl,rfl,rfl,rfl⟩)
theorem Sg(x:Self)(r:ah):eW (Gq x r) r=true:=aeZ r
theorem Sh(x:Self)(r:ah):eW (Gp x r) r=true:=by rw[sameKey_iff];exact⟨rfl,rfl,rfl,rfl⟩
theorem O1{a b:ah}(h:¬eW a b=true):eW a b=false:=by
 cases hc:eW a b with
 |false=>rfl
 |true=>exact absurd hc h
theorem j4_{s:List ah}(h:lq s){f:ah->ah}(hf:∀r,eW (f r) r=true):s.Pairwise λa b=>eW (f a) (f b)=false:=by
 refine List.Pairwise.imp (λ{a b} q9=>O1 λhc=>?_) h
 have h1:=qt_ q9
 rw[Gn (Sb (hf a)) (Gn hc (hf b))]at h1
 cases h1
theorem IJ{f:ah->ah}:∀{l s:List ah},lq s->lq (nV f s l)
 | [],_,h=>h
 |a::l,s,h=>IJ (l:=l) (R8 h (f a))
theorem O2{f:ah->ah}{p:ah->Bool}:∀(l c:List ah),l.foldl (λc r=>if p r=true then eJ c (f r)else c) c=nV f c (l.filter p)
 | [],c=>rfl
 |a::l,c=>by
  rw[List.foldl_cons,O2 l,List.filter_cons]
  cases h:p a<;>rfl
theorem O3{x:Self}{W:List ah}(hW:lq W)(hs:lq x.store){r:ah}:r∈vA x W↔(∃w∈W,vz x.store w=true∧r=Gp x w)∨∃o∈x.store,tG x W o=true∧r=Gq x o:=by
 have e1:W.foldl (Bz x) []=nV (Gp x) [] (W.filter (vz x.store)):=O2 (f:=Gp x) (p:=vz x.store) W []
 have e2:vA x W=nV (Gq x) (W.foldl (Bz x) []) (x.store.filter (tG x W)):=O2 (f:=Gq x) (p:=tG x W) x.store _
 rw[e2,Sc ((j4_ hs (Sg x)).filter _),e1,Sc ((j4_ hW (Sh x)).filter _)]
 constructor
 ·rintro(⟨o,ho,e⟩|⟨⟨w,hw,e⟩|⟨h,_⟩,_⟩)
  ·obtain⟨h1,h2⟩:=List.mem_filter.1 ho
   exact .inr ⟨o,h1,h2,e⟩
  ·obtain⟨h1,h2⟩:=List.mem_filter.1 hw
   exact .inl ⟨w,h1,h2,e⟩
  ·cases h
 ·rintro(⟨w,hw,h,e⟩|⟨o,ho,h,e⟩)
  ·refine .inr ⟨.inl ⟨w,List.mem_filter.2 ⟨hw,h⟩,e⟩,λo ho=>O1 λhc=>?_⟩
   obtain⟨_,h2⟩:=List.mem_filter.1 ho
   unfold tG at h2
   simp only[bd,decide_eq_true_eq]at h2
   have h3:=aeG h2.2.1 w hw
   rw[Gn (Sb (Sh x w)) (Gn (e▸hc) (Sg x o))]at h3
   cases h3
  ·exact .inl ⟨o,List.mem_filter.2 ⟨ho,h⟩,e⟩
theorem jT_(x:Self)(W:List ah):lq (vA x W):=by
 have e1:W.foldl (Bz x) []=nV (Gp x) [] (W.filter (vz x.store)):=O2 (f:=Gp x) (p:=vz x.store) W []
 have e2:vA x W=nV (Gq x) (W.foldl (Bz x) []) (x.store.filter (tG x W)):=O2 (f:=Gq x) (p:=tG x W) x.store _
 rw[e2,e1]
 exact IJ (IJ .nil)
theorem GI{s N:List ah}(hN:lq N){r:ah}:r∈nV same s N↔r∈N∨(r∈s∧∀o∈N,eW r o=false):=by
 rw[Sc (f:=same) (j4_ hN λr=>Ox r)]
 constructor
 ·rintro(⟨o,ho,e⟩|h)
  ·exact .inl (e▸ho)
  ·exact .inr h
 ·rintro(h|h)
  ·exact .inl ⟨r,h,rfl⟩
  ·exact .inr h
end Go.Proofs.YtbhplkilhknciaaC

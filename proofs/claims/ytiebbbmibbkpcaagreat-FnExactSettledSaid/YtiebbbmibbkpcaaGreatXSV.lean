/- Are all settled? Conditions: none. -/
import Derived.Test.YtiebbbmibbkpcaaGreatXSU
namespace Go.Proofs.YtiebbbmibbkpcaaGreatC
open Int (reduceLE reduceLT reduceEq reduceGT reduceGE reduceAdd reduceSub reduceMul reduceNeg)
set_option linter.unusedVariables false
set_option linter.unusedSimpArgs false
def agc_ (a b:Route):Bool:=(a.thing == b.thing) && (decide (a.to=b.to) && (decide (a.kind=b.kind) && (decide (a.cost=b.cost) && (decide (a.far=b.far) && v0_ a.hops b.hops))))
def vu_ (a b:List Route):Bool:=decide ((a.length:Int)=b.length) && allB a.length fun i=>agc_ (gt a i) (gt b i)
theorem arr_ (a b:List Route) (h:a.length≤1048576) (hh:∀ r∈a,r.hops.length≤1048576):vl_ [.l (a.map zI_),.l (b.map zI_)]=some [bb (vu_ a b)]:=by
 rw [aro_];simp (disch:=omega) only [↓pq,ps,pz,↓reduceIte,reduceLE,reduceLT,reduceEq,reduceGT,reduceGE,reduceAdd,reduceSub,reduceMul,reduceNeg,wB_,kM_]
 by_cases hl:(a.length:Int)=b.length
 ·simp (disch:=omega) only [↓pq,ps,pz,↓reduceIte,reduceLE,reduceLT,reduceEq,reduceGT,reduceGE,reduceAdd,reduceSub,reduceMul,reduceNeg,wB_,hl,not_true_eq_false]
  refine (xP_ a.length (fun i=>[bb false,ii i]) (fun i=>agc_ (gt a i) (gt b i)) (outF:=some [bb false]) (outT:=some [bb true]) rfl (zc_ h) ?_ ?_).trans (yJ_ _ _ _ |>.trans (by unfold vu_;simp;omega))
  ·intro i hi k
   have hi2:(i:Int) < b.length:=by omega
   have:=hh _ (z1_ (n:=i) (by omega) hi)
   simp (disch:=omega) only [↓pq,ps,pz,↓reduceIte,reduceLE,reduceLT,reduceEq,reduceGT,reduceGE,reduceAdd,reduceSub,reduceMul,reduceNeg,wB_,hi,hi2,← hl,akh_ _ _ this]
   unfold agc_
   grind
  ·intro k
   simp (disch:=omega) only [↓pq,ps,pz,↓reduceIte,reduceLE,reduceLT,reduceEq,reduceGT,reduceGE,reduceAdd,reduceSub,reduceMul,reduceNeg,wB_,← hl]
 ·have:vu_ a b=false:=by unfold vu_;simp;omega
  simp (disch:=omega) only [↓pq,ps,pz,↓reduceIte,reduceLE,reduceLT,reduceEq,reduceGT,reduceGE,reduceAdd,reduceSub,reduceMul,reduceNeg,wB_,hl,not_false_eq_true,this]
theorem amm_ (a b:List Route) (h:a.length≤1048576) (hh:∀ r∈a,r.hops.length≤1048576):wD_ [.l (a.map zI_),.l (b.map zI_)]=some [bb (vu_ a b)]:=by
 rw [amo_];simp (disch:=omega) only [↓pq,ps,pz,↓reduceIte,reduceLE,reduceLT,reduceEq,reduceGT,reduceGE,reduceAdd,reduceSub,reduceMul,reduceNeg,xT_,jd_]
 by_cases hl:(a.length:Int)=b.length
 ·simp (disch:=omega) only [↓pq,ps,pz,↓reduceIte,reduceLE,reduceLT,reduceEq,reduceGT,reduceGE,reduceAdd,reduceSub,reduceMul,reduceNeg,xT_,hl,not_true_eq_false]
  refine (xP_ a.length (fun i=>[bb false,ii i]) (fun i=>agc_ (gt a i) (gt b i)) (outF:=some [bb false]) (outT:=some [bb true]) rfl (zc_ h) ?_ ?_).trans (yJ_ _ _ _ |>.trans (by unfold vu_;simp;omega))
  ·intro i hi k
   have hi2:(i:Int) < b.length:=by omega
   have:=hh _ (z1_ (n:=i) (by omega) hi)
   simp (disch:=omega) only [↓pq,ps,pz,↓reduceIte,reduceLE,reduceLT,reduceEq,reduceGT,reduceGE,reduceAdd,reduceSub,reduceMul,reduceNeg,xT_,hi,hi2,← hl,ad9_ _ _ this]
   unfold agc_
   grind
  ·intro k
   simp (disch:=omega) only [↓pq,ps,pz,↓reduceIte,reduceLE,reduceLT,reduceEq,reduceGT,reduceGE,reduceAdd,reduceSub,reduceMul,reduceNeg,xT_,← hl]
 ·have:vu_ a b=false:=by unfold vu_;simp;omega
  simp (disch:=omega) only [↓pq,ps,pz,↓reduceIte,reduceLE,reduceLT,reduceEq,reduceGT,reduceGE,reduceAdd,reduceSub,reduceMul,reduceNeg,xT_,hl,not_false_eq_true,this]
structure FitNode (n:Node):Prop where
 links:n.self.net.links.length≤1048576
 things:n.self.net.things.length≤1048576
 heard:n.self.heard.length≤1048576
 store:n.self.store.length≤1048576
 near:NearL n.self.store
 ears:n.ears.length≤1048576
theorem apw_ {ns:List Node} (h:blks kV_ ns≤1048576) {n:Node} (hn:n∈ns):FitNode n:=by
 have h1:=aob_ (f:=kV_) hn
 have h2:=vy_ (f:=uN_) n.self.heard
 have h3:kV_ n=blks kU_ n.self.net.links+blks jJ_ n.self.net.things+blks uN_ n.self.heard+blks jp_ n.self.store+blks ajv_ n.ears:=rfl
 have h4:=vy_ (f:=kU_) n.self.net.links
 have h5:=vy_ (f:=jJ_) n.self.net.things
 have h6:=vy_ (f:=jp_) n.self.store
 have h7:=vy_ (f:=ajv_) n.ears
 exact ⟨by omega,by omega,by omega,by omega,aQp_ (by omega),by omega⟩
theorem FitNode.i {x:Node} (h:FitNode x):uL_ [ii x.self.id,ii x.self.boot,ii x.self.net.n,.l (x.self.net.links.map zu_),.l (x.self.net.things.map zt_),.l (x.self.heard.map eInt),.l (x.self.store.map eRcd),.l (x.ears.map eEar)]=some [.l ((xo_ x).map zI_)] :=
 aKi_ x.self.id x.self.boot x.self.net.n x.self.net.links x.self.net.things x.self.heard x.self.store x.ears h.links h.things h.heard h.store h.near h.ears
theorem FitNode.s {x:Node} (h:FitNode x):uE_ [ii x.self.id,ii x.self.boot,ii x.self.net.n,.l (x.self.net.links.map zu_),.l (x.self.net.things.map zt_),.l (x.self.heard.map eInt),.l (x.self.store.map eRcd),.l (x.ears.map eEar)]=some [.l ((xo_ x).map zI_)] :=
 aKa_ x.self.id x.self.boot x.self.net.n x.self.net.links x.self.net.things x.self.heard x.self.store x.ears h.links h.things h.heard h.store h.near h.ears
theorem adt_ {x:Node} {r:Route} (hr:r∈xo_ x):r.hops.length≤1048576:=by
 obtain ⟨_,_,h3⟩:=aat_ x
 have h1:=aob_ (f:=ab2_) hr
 have h2:=vy_ (f:=uN_) r.hops
 have h4:ab2_ r=blks uN_ r.hops:=rfl
 omega
def act_ (x:Net) (L U:List Bool) (n:Node) (i:Nat):Bool:=vu_ (xo_ n) (xy_ x L U ((i:Int)+1))
def alx_ (x:Net) (L U:List Bool) (ns:List Node):Bool:=allB ns.length fun i=>!upB U ns.length (i+1) || act_ x L U (gt ns i) i
theorem aEd_ (n:Int) (ls:List Link) (ts:List Thing) (L u:List Bool) (t5:T) (ns:List Node) (t7 t8 t9:T) (h1:ls.length≤1048576) (h2:ts.length≤1048576) (h:u.length≤1048576) (h3:ns.length≤1048576) (hs:∀ x∈ns,FitNode x) :
  u1_ [ii n,.l (ls.map zu_),.l (ts.map zt_),.l (L.map zC_),.l (u.map zC_),t5,.l (ns.map yF_),t7,t8,t9]=some [bb (alx_ ⟨n,ls,ts⟩ L u ns)]:=by
 rw [aBd_];simp (disch:=omega) only [↓pq,ps,pz,↓reduceIte,reduceLE,reduceLT,reduceEq,reduceGT,reduceGE,reduceAdd,reduceSub,reduceMul,reduceNeg,ja_,ae5_]
 refine (xP_ ns.length (fun i=>[bb false,ii i,ii n,.l (ls.map zu_),.l (ts.map zt_),.l (L.map zC_),.l (u.map zC_),t5,.l (ns.map yF_),t7,t8,t9]) (fun i=>!upB u ns.length (i+1) || act_ ⟨n,ls,ts⟩ L u (gt ns i) i) (outF:=some [bb false]) (outT:=some [bb true]) rfl (zc_ h3) ?_ ?_).trans (yJ_ _ _ _ |>.trans (by unfold alx_;simp))
 ·intro i hi k
  have hx:=hs _ (z1_ (n:=i) (by omega) hi)
  have hr:=(aat_ (gt ns (i:Int))).2.1
  simp (disch:=omega) only [↓pq,ps,pz,↓reduceIte,reduceLE,reduceLT,reduceEq,reduceGT,reduceGE,reduceAdd,reduceSub,reduceMul,reduceNeg,ja_,hi,aww_ _ _ _ _ u _ ns _ _ _ ((i:Int)+1) h,hx.i,ard_ n ls ts L u ((i:Int)+1) h1 h2,arr_ (xo_ (gt ns (i:Int))) (xy_ ⟨n,ls,ts⟩ L u ((i:Int)+1)) (by omega) fun r hr=>adt_ hr]
  unfold act_
  cases upB u ns.length (i+1) <;> cases vu_ (xo_ (gt ns (i:Int))) (xy_ ⟨n,ls,ts⟩ L u ((i:Int)+1)) <;> simp
 ·intro k
  simp (disch:=omega) only [↓pq,ps,pz,↓reduceIte,reduceLE,reduceLT,reduceEq,reduceGT,reduceGE,reduceAdd,reduceSub,reduceMul,reduceNeg,ja_,]
theorem aCt_ (n:Int) (ls:List Link) (ts:List Thing) (L u:List Bool) (t5:T) (ns:List Node) (t7 t8 t9:T) (h1:ls.length≤1048576) (h2:ts.length≤1048576) (h:u.length≤1048576) (h3:ns.length≤1048576) (hs:∀ x∈ns,FitNode x) :
  uY_ [ii n,.l (ls.map zu_),.l (ts.map zt_),.l (L.map zC_),.l (u.map zC_),t5,.l (ns.map yF_),t7,t8,t9]=some [bb (alx_ ⟨n,ls,ts⟩ L u ns)]:=by
 rw [aDa_];simp (disch:=omega) only [↓pq,ps,pz,↓reduceIte,reduceLE,reduceLT,reduceEq,reduceGT,reduceGE,reduceAdd,reduceSub,reduceMul,reduceNeg,ul_,aeo_]
 obtain ⟨m,hm⟩:∃ m,m=min ns.length u.length:=⟨_,rfl⟩
 refine (xP_ m (fun i=>[bb false,ii i]) (fun i=>!gt u i || act_ ⟨n,ls,ts⟩ L u (gt ns i) i) (outF:=some [bb false]) (outT:=some [bb true]) rfl (zc_ (by omega)) ?_ ?_).trans (yJ_ _ _ _ |>.trans ?_)
 ·intro i hi k
  have hi1:(i:Int) < ns.length:=by omega
  have hi2:(i:Int) < u.length:=by omega
  have hx:=hs _ (z1_ (n:=i) (by omega) hi1)
  have hr:=(aat_ (gt ns (i:Int))).2.1
  simp (disch:=omega) only [↓pq,ps,pz,↓reduceIte,reduceLE,reduceLT,reduceEq,reduceGT,reduceGE,reduceAdd,reduceSub,reduceMul,reduceNeg,ul_,hi1,hi2,hx.s,arf_ n ls ts L u ((i:Int)+1) h1 h2,amm_ (xo_ (gt ns (i:Int))) (xy_ ⟨n,ls,ts⟩ L u ((i:Int)+1)) (by omega) fun r hr=>adt_ hr]
  unfold act_
  cases gt u (i:Int) <;> cases vu_ (xo_ (gt ns (i:Int))) (xy_ ⟨n,ls,ts⟩ L u ((i:Int)+1)) <;> simp
 ·intro k
  by_cases h5:ns.length≤u.length
  ·have:¬ ((m:Int) < ns.length):=by omega
   simp (disch:=omega) only [↓pq,ps,pz,↓reduceIte,reduceLE,reduceLT,reduceEq,reduceGT,reduceGE,reduceAdd,reduceSub,reduceMul,reduceNeg,ul_,this]
  ·have h6:((m:Int) < ns.length):=by omega
   have:¬ ((m:Int) < u.length):=by omega
   simp (disch:=omega) only [↓pq,ps,pz,↓reduceIte,reduceLE,reduceLT,reduceEq,reduceGT,reduceGE,reduceAdd,reduceSub,reduceMul,reduceNeg,ul_,h6,this]
 ·rw [aVp_]
  congr 3
  rw [Bool.eq_iff_iff]
  unfold alx_
  rw [allB_iff,allB_iff]
  refine ⟨fun h i hi=>?_,fun h i hi=>?_⟩
  ·rw [aMj_ hi]
   by_cases h7:i < u.length
   ·simpa [h7] using h i (by omega)
   ·simp [h7]
  ·have:=h i (by omega)
   rw [aMj_ (by omega)] at this
   simpa [show i < u.length by omega] using this
end Go.Proofs.YtiebbbmibbkpcaaGreatC

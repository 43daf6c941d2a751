/- Areas and borders of a node. Conditions: none. -/
import Derived.Test.YtiebbbmibbkpcaaGreatXSO
namespace Go.Proofs.YtiebbbmibbkpcaaGreatC
open Int (reduceLE reduceLT reduceEq reduceGT reduceGE reduceAdd reduceSub reduceMul reduceNeg)
set_option linter.unusedVariables false
set_option linter.unusedSimpArgs false
theorem amc_ {x:Net} (h:vV_ x=true):ascB (xq_ x.n) xH_ x.links=true∧x.links.length≤12:=by
 unfold vV_ at h
 simp only [Bool.and_eq_true,decide_eq_true_eq] at h
 exact ⟨h.1.2,h.1.1.1.2⟩
theorem j4_ {n:Int} {ls:List Link} (h:ascB (xq_ n) xH_ ls=true) {l:Link} (hl:l∈ls):(1≤n∧n≤6)∧(1≤l.a∧l.a≤n)∧(1≤l.b∧l.b≤n)∧l.a < l.b∧(1≤l.cost∧l.cost≤1000)∧0≤l.area∧l.area≤2:=by
 obtain ⟨i,hi,rfl⟩:=List.mem_iff_getElem.1 hl
 have:=allB_iff.1 h i hi
 rw [zm_ hi] at this
 simp only [Bool.and_eq_true,xq_,inB_iff,decide_eq_true_eq] at this
 omega
def three:List Int:=[0,1,2]
theorem mem_three {x:Int}:x∈three↔0≤x∧x≤2:=by simp [three];omega
theorem three_asc:three.Pairwise (· < ·):=by unfold three;simp
def abg_ (node a:Int) (l:Link):Bool:=l.area == a && (l.a == node || l.b == node)
def z1_ (ls:List Link) (node:Int):List Int:=three.filter fun a=>ls.any (abg_ node a)
theorem wN_ (ls:List Link) (node:Int):(z1_ ls node).length≤3:=List.length_filter_le _ _
theorem aAk_ (node:Int) (ls:List Link) (c:List Int) (hc:c.Pairwise (· < ·)):let K:=ls.foldl (fun c x=>if x.a=node∨x.b=node then insI c x.area else c) c;K.Pairwise (· < ·)∧∀ k,k∈K↔k∈c∨∃ x∈ls,(x.a=node∨x.b=node)∧x.area=k:=by
 induction ls generalizing c with
 | nil=>exact ⟨hc,by simp⟩
 | cons x s ih =>
  rw [List.foldl_cons]
  by_cases h:x.a=node∨x.b=node
  ·rw [if_pos h]
   obtain ⟨h1,h2⟩:=ih _ (jH_ hc x.area)
   refine ⟨h1,fun k=>?_⟩
   rw [h2,mem_insI]
   simp only [List.mem_cons]
   constructor
   ·rintro ((e | e) | ⟨y,hy,e⟩)
    ·exact .inr ⟨x,.inl rfl,h,e.symm⟩
    ·exact .inl e
    ·exact .inr ⟨y,.inr hy,e⟩
   ·rintro (e | ⟨y,rfl | hy,e⟩)
    ·exact .inl (.inr e)
    ·exact .inl (.inl e.2.symm)
    ·exact .inr ⟨y,hy,e⟩
  ·rw [if_neg h]
   obtain ⟨h1,h2⟩:=ih _ hc
   refine ⟨h1,fun k=>?_⟩
   rw [h2]
   simp only [List.mem_cons]
   constructor
   ·rintro (e | ⟨y,hy,e⟩)
    ·exact .inl e
    ·exact .inr ⟨y,.inr hy,e⟩
   ·rintro (e | ⟨y,rfl | hy,e⟩)
    ·exact .inl e
    ·exact absurd e.1 h
    ·exact .inr ⟨y,hy,e⟩
theorem aMn_ {n:Int} {ls:List Link} (h:ascB (xq_ n) xH_ ls=true) (node:Int):ls.foldl (fun c x=>if x.a=node∨x.b=node then insI c x.area else c) []=z1_ ls node:=by
 obtain ⟨h1,h2⟩:=aAk_ node ls [] .nil
 refine j1_ h1 (three_asc.filter _) fun k=>?_
 unfold z1_
 rw [h2,List.mem_filter,mem_three,List.any_eq_true]
 constructor
 ·rintro (e | ⟨x,hx,e,rfl⟩)
  ·cases e
  ·have:=j4_ h hx
   refine ⟨by omega,x,hx,?_⟩
   unfold abg_
   rcases e with e | e <;> simp [e]
 ·rintro ⟨_,x,hx,e⟩
  unfold abg_ at e
  simp only [Bool.and_eq_true,Bool.or_eq_true,beq_iff_eq] at e
  exact .inr ⟨x,hx,e.2,e.1⟩
theorem jo_ (t0 t2:T) (ls:List Link) (node n:Int) (h:ascB (xq_ n) xH_ ls=true) (hl:ls.length≤12):y9_ [t0,.l (ls.map zn_),t2,ii node]=some [.l ((z1_ ls node).map eInt)]:=by
 rw [aCp_];simp (disch:=omega) only [↓pq,ps,pz,↓reduceIte,reduceLE,reduceLT,reduceEq,reduceGT,reduceGE,reduceAdd,reduceSub,reduceMul,reduceNeg,z5_,z7_,yl_,ae7_]
 refine (zg_ ls (fun j c=>[.l (c.map eInt),ii j]) (fun c x=>if x.a=node∨x.b=node then insI c x.area else c) (fun c=>some [T.l (c.map eInt)]) [] (fun j c=>c.Pairwise (· < ·)∧∀ x∈c,0≤x∧x≤2) rfl (zb_ (by omega)) ⟨.nil,by simp⟩ ?_ ?_).trans (by rw [aMn_ h])
 ·rintro j c hj ⟨c1,c2⟩
  have hm:=j4_ h (zX_ (l:=ls) (n:=(j:Int)) (by omega) hj)
  have hc3:c.length≤3:=by
   have e:c=three.filter fun x=>c.contains x:=j1_ c1 (three_asc.filter _) fun x=>by
    rw [List.mem_filter,mem_three,List.contains_iff_mem]
    exact ⟨fun hx=>⟨c2 x hx,hx⟩,fun hx=>hx.2⟩
   rw [e];exact List.length_filter_le _ _
  by_cases k1:(gt ls j).a=node
  ·rw [if_pos (.inl k1)]
   refine ⟨⟨jH_ c1 _,fun x hx=>by rcases mem_insI.1 hx with rfl | hx;omega;exact c2 x hx⟩,fun q=>?_⟩
   simp (disch:=omega) only [↓pq,ps,pz,↓reduceIte,reduceLE,reduceLT,reduceEq,reduceGT,reduceGE,reduceAdd,reduceSub,reduceMul,reduceNeg,z5_,z7_,yl_,hj,k1]
   refine (aA6_ c1 (by omega) _ _).trans ?_
   simp (disch:=omega) only [↓pq,ps,pz,↓reduceIte,reduceLE,reduceLT,reduceEq,reduceGT,reduceGE,reduceAdd,reduceSub,reduceMul,reduceNeg,z5_,z7_,yl_,]
  ·by_cases k2:(gt ls j).b=node
   ·rw [if_pos (.inr k2)]
    refine ⟨⟨jH_ c1 _,fun x hx=>by rcases mem_insI.1 hx with rfl | hx;omega;exact c2 x hx⟩,fun q=>?_⟩
    simp (disch:=omega) only [↓pq,ps,pz,↓reduceIte,reduceLE,reduceLT,reduceEq,reduceGT,reduceGE,reduceAdd,reduceSub,reduceMul,reduceNeg,z5_,z7_,yl_,hj,k1,k2]
    refine (aBr_ c1 (by omega) _ _).trans ?_
    simp (disch:=omega) only [↓pq,ps,pz,↓reduceIte,reduceLE,reduceLT,reduceEq,reduceGT,reduceGE,reduceAdd,reduceSub,reduceMul,reduceNeg,z5_,z7_,yl_,]
   ·rw [if_neg (by omega)]
    refine ⟨⟨c1,c2⟩,fun q=>?_⟩
    simp (disch:=omega) only [↓pq,ps,pz,↓reduceIte,reduceLE,reduceLT,reduceEq,reduceGT,reduceGE,reduceAdd,reduceSub,reduceMul,reduceNeg,z5_,z7_,yl_,hj,k1,k2]
 ·rintro c q hc
  simp (disch:=omega) only [↓pq,ps,pz,↓reduceIte,reduceLE,reduceLT,reduceEq,reduceGT,reduceGE,reduceAdd,reduceSub,reduceMul,reduceNeg,z5_,z7_,yl_,]
def aft_ (ls:List Link) (node a:Int):List Int:=six.filter fun v=>decide (yY_ ls node v a > 0)
theorem aqq_ (t0 t2:T) (ls:List Link) (node a:Int) (hl:ls.length≤12):qK_ [t0,.l (ls.map zn_),t2,ii node,ii a]=some [.l ((aft_ ls node a).map eInt)]:=by
 rw [aFt_];simp (disch:=omega) only [↓pq,ps,pz,↓reduceIte,reduceLE,reduceLT,reduceEq,reduceGT,reduceGE,reduceAdd,reduceSub,reduceMul,reduceNeg,uR_,agl_]
 refine (yy_ 6 (fun i c=>[.l (c.map eInt),ii (i+1)]) (fun c i=>if decide (yY_ ls node ((i:Int)+1) a > 0)=true then c++[(i:Int)+1] else c) (fun c=>some [T.l (c.map eInt)]) [] (fun i c=>c.length≤i) rfl (zb_ (by omega)) (by simp) ?_ ?_).trans ?_
 ·intro i c hi hc
  have hi':(i:Int)+1≤6:=by omega
  refine ⟨by split;(· simp;omega);(· omega),fun q=>?_⟩
  by_cases k:yY_ ls node ((i:Int)+1) a > 0
  ·simp (disch:=omega) only [↓pq,ps,pz,↓reduceIte,reduceLE,reduceLT,reduceEq,reduceGT,reduceGE,reduceAdd,reduceSub,reduceMul,reduceNeg,uR_,hi',uy_ _ _ _ _ _ _ (show ls.length≤1048576 by omega),k,decide_true]
  ·simp (disch:=omega) only [↓pq,ps,pz,↓reduceIte,reduceLE,reduceLT,reduceEq,reduceGT,reduceGE,reduceAdd,reduceSub,reduceMul,reduceNeg,uR_,hi',uy_ _ _ _ _ _ _ (show ls.length≤1048576 by omega),k,decide_false,Bool.false_eq_true]
 ·intro c q hc
  simp (disch:=omega) only [↓pq,ps,pz,↓reduceIte,reduceLE,reduceLT,reduceEq,reduceGT,reduceGE,reduceAdd,reduceSub,reduceMul,reduceNeg,uR_,]
 ·unfold aft_
  rw [w7_ (fun i:Nat=>decide (yY_ ls node ((i:Int)+1) a > 0)) (fun i:Nat=>(i:Int)+1),afi_,List.filter_map]
  rfl
theorem aE3_ {n:Int} {ls:List Link} (h:ascB (xq_ n) xH_ ls=true) (node a:Int):(aft_ ls node a).length > 0↔ls.any (abg_ node a)=true:=by
 unfold aft_
 rw [show ((six.filter fun v=>decide (yY_ ls node v a > 0)).length > 0)↔∃ v∈six,yY_ ls node v a > 0 by
  rw [gt_iff_lt,List.length_pos_iff_exists_mem]
  constructor
  ·rintro ⟨v,hv⟩
   have:=List.mem_filter.1 hv
   exact ⟨v,this.1,by simpa using this.2⟩
  ·rintro ⟨v,hv,e⟩
   exact ⟨v,List.mem_filter.2 ⟨hv,by simpa using e⟩⟩,List.any_eq_true]
 have key:∀ v,yY_ ls node v a > 0↔∃ x∈ls,yk_ node v a x=true:=by
  intro v
  have hz:=k4_ h node v a
  constructor
  ·intro hc
   have h0:0≤zu_ (yk_ node v a) ls:=by
    rcases Int.lt_or_le (zu_ (yk_ node v a) ls) 0 with h1 | h1
    ·have:=hz.2 h1;omega
    ·exact h1
   exact ⟨_,zX_ h0 (x7_ _ _),xv_ _ _ h0⟩
  ·rintro ⟨x,hx,e⟩
   have h0:¬ zu_ (yk_ node v a) ls < 0:=fun hc=>by
    have:=(w5_ _ _).1 hc x hx
    rw [e] at this;cases this
   have h1:=j4_ h (zX_ (l:=ls) (n:=zu_ (yk_ node v a) ls) (by omega) (x7_ _ _))
   unfold yY_
   rw [if_neg h0]
   omega
 constructor
 ·rintro ⟨v,hv,hc⟩
  obtain ⟨x,hx,e⟩:=(key v).1 hc
  refine ⟨x,hx,?_⟩
  unfold yk_ at e
  unfold abg_
  simp only [Bool.and_eq_true,Bool.or_eq_true,beq_iff_eq] at e ⊢
  rcases e with ⟨e1,e2 | e2⟩
  ·exact ⟨e1,.inl e2.1⟩
  ·exact ⟨e1,.inr e2.2⟩
 ·rintro ⟨x,hx,e⟩
  have hl:=j4_ h hx
  unfold abg_ at e
  simp only [Bool.and_eq_true,Bool.or_eq_true,beq_iff_eq] at e
  rcases e with ⟨e1,e2 | e2⟩
  ·exact ⟨x.b,mem_six.2 (by omega),(key _).2 ⟨x,hx,by unfold yk_;simp [e1,e2]⟩⟩
  ·exact ⟨x.a,mem_six.2 (by omega),(key _).2 ⟨x,hx,by unfold yk_;simp [e1,e2]⟩⟩
theorem aes_ (t0 t2:T) (ls:List Link) (node n:Int) (h:ascB (xq_ n) xH_ ls=true) (hl:ls.length≤12):xV_ [t0,.l (ls.map zn_),t2,ii node]=some [.l ((z1_ ls node).map eInt)]:=by
 rw [aAi_];simp (disch:=omega) only [↓pq,ps,pz,↓reduceIte,reduceLE,reduceLT,reduceEq,reduceGT,reduceGE,reduceAdd,reduceSub,reduceMul,reduceNeg,up_,afa_]
 refine (yy_ 3 (fun i c=>[.l (c.map eInt),ii i]) (fun c i=>if ls.any (abg_ node (i:Int))=true then c++[(i:Int)] else c) (fun c=>some [T.l (c.map eInt)]) [] (fun i c=>c.length≤i) rfl (zb_ (by omega)) (by simp) ?_ ?_).trans ?_
 ·intro i c hi hc
  have hi':(i:Int)≤2:=by omega
  refine ⟨by split;(· simp;omega);(· omega),fun q=>?_⟩
  have hn:=aE3_ h node (i:Int)
  by_cases k:ls.any (abg_ node (i:Int))=true
  ·have h1:((aft_ ls node (i:Int)).length:Int) > 0:=by have:=hn.2 k;omega
   simp (disch:=omega) only [↓pq,ps,pz,↓reduceIte,reduceLE,reduceLT,reduceEq,reduceGT,reduceGE,reduceAdd,reduceSub,reduceMul,reduceNeg,up_,hi',aqq_ _ _ _ _ _ hl,k,h1]
  ·have h1:¬ ((aft_ ls node (i:Int)).length:Int) > 0:=by
    intro hc
    exact k (hn.1 (by omega))
   simp (disch:=omega) only [↓pq,ps,pz,↓reduceIte,reduceLE,reduceLT,reduceEq,reduceGT,reduceGE,reduceAdd,reduceSub,reduceMul,reduceNeg,up_,hi',aqq_ _ _ _ _ _ hl,k,h1,Bool.false_eq_true]
 ·intro c q hc
  simp (disch:=omega) only [↓pq,ps,pz,↓reduceIte,reduceLE,reduceLT,reduceEq,reduceGT,reduceGE,reduceAdd,reduceSub,reduceMul,reduceNeg,up_,]
 ·unfold z1_
  rw [w7_ (fun i:Nat=>ls.any (abg_ node (i:Int))) (fun i:Nat=>(i:Int)),show three=(List.range 3).map (fun i:Nat=>(i:Int)) from rfl,List.filter_map]
  rfl
def vO_ (ls:List Link) (node:Int):Bool:=(z1_ ls node).contains 0 && decide ((z1_ ls node).length > 1)
theorem aip_ (t0 t2:T) (ls:List Link) (node n:Int) (h:ascB (xq_ n) xH_ ls=true) (hl:ls.length≤12):va_ [t0,.l (ls.map zn_),t2,ii node]=some [bb (vO_ ls node)]:=by
 have hal:=wN_ ls node
 rw [aFm_];simp (disch:=omega) only [↓pq,ps,pz,↓reduceIte,reduceLE,reduceLT,reduceEq,reduceGT,reduceGE,reduceAdd,reduceSub,reduceMul,reduceNeg,ag4_,jo_ _ _ _ _ _ h hl,xJ_ _ _ (show (z1_ ls node).length≤1048576 by omega)]
 unfold vO_
 cases (z1_ ls node).contains 0 with
 | true=>simp (disch:=omega) only [↓pq,ps,pz,↓reduceIte,reduceLE,reduceLT,reduceEq,reduceGT,reduceGE,reduceAdd,reduceSub,reduceMul,reduceNeg,];simp;omega
 | false=>simp (disch:=omega) only [↓pq,ps,pz,↓reduceIte,reduceLE,reduceLT,reduceEq,reduceGT,reduceGE,reduceAdd,reduceSub,reduceMul,reduceNeg,Bool.false_eq_true];simp
theorem ahp_ (t0 t2:T) (ls:List Link) (node n:Int) (h:ascB (xq_ n) xH_ ls=true) (hl:ls.length≤12):vf_ [t0,.l (ls.map zn_),t2,ii node]=some [bb (vO_ ls node)]:=by
 have hal:=wN_ ls node
 rw [aF4_];simp (disch:=omega) only [↓pq,ps,pz,↓reduceIte,reduceLE,reduceLT,reduceEq,reduceGT,reduceGE,reduceAdd,reduceSub,reduceMul,reduceNeg,agw_,aes_ _ _ _ _ _ h hl]
 unfold vO_
 by_cases k:((z1_ ls node).length:Int) > 1
 ·have k':(z1_ ls node).length > 1:=by omega
  have h0:∀ (p:Int→Bool),(three.filter p).length > 1→(three.filter p).contains 0=decide (gt (three.filter p) 0=0):=by
   intro p hp
   unfold three at hp ⊢
   simp only [List.filter_cons,List.filter_nil] at hp ⊢
   revert hp
   cases p 0 <;> cases p 1 <;> cases p 2 <;> first | (intro _;rfl) | (intro h;exact absurd h (by decide))
  rw [show (z1_ ls node).contains 0=decide (gt (z1_ ls node) 0=0) from h0 _ k']
  simp (disch:=omega) only [↓pq,ps,pz,↓reduceIte,reduceLE,reduceLT,reduceEq,reduceGT,reduceGE,reduceAdd,reduceSub,reduceMul,reduceNeg,k,k',decide_true,Bool.and_true]
  rfl
 ·have k':¬ (z1_ ls node).length > 1:=by omega
  simp (disch:=omega) only [↓pq,ps,pz,↓reduceIte,reduceLE,reduceLT,reduceEq,reduceGT,reduceGE,reduceAdd,reduceSub,reduceMul,reduceNeg,k,k',decide_false,Bool.and_false]
end Go.Proofs.YtiebbbmibbkpcaaGreatC

/- Areas and borders of a node. Conditions: none. -/
import Derived.Test.YtiebbbmibbkpcaaGreatXSO
namespace Go.Proofs.YtiebbbmibbkpcaaGreatC
open Int (reduceLE reduceLT reduceEq reduceGT reduceGE reduceAdd reduceSub reduceMul reduceNeg)
set_option linter.unusedVariables false
set_option linter.unusedSimpArgs false
theorem amz_ {x:Net} (h:uF_ x=true):ascB (xj_ x.n) xD_ x.links=true∧x.links.length≤12:=by
 unfold uF_ at h
 simp only [Bool.and_eq_true,decide_eq_true_eq] at h
 exact ⟨h.1.2,h.1.1.1.2⟩
theorem kC_ {n:Int} {ls:List Link} (h:ascB (xj_ n) xD_ ls=true) {l:Link} (hl:l∈ls):(1≤n∧n≤6)∧(1≤l.a∧l.a≤n)∧(1≤l.b∧l.b≤n)∧l.a < l.b∧(1≤l.cost∧l.cost≤1000)∧0≤l.area∧l.area≤2:=by
 obtain ⟨i,hi,rfl⟩:=List.mem_iff_getElem.1 hl
 have:=allB_iff.1 h i hi
 rw [zm_ hi] at this
 simp only [Bool.and_eq_true,xj_,inB_iff,decide_eq_true_eq] at this
 omega
def three:List Int:=[0,1,2]
theorem mem_three {x:Int}:x∈three↔0≤x∧x≤2:=by simp [three];omega
theorem three_asc:three.Pairwise (· < ·):=by unfold three;simp
def aa1_ (node a:Int) (l:Link):Bool:=l.area == a && (l.a == node || l.b == node)
def z3_ (ls:List Link) (node:Int):List Int:=three.filter fun a=>ls.any (aa1_ node a)
theorem wK_ (ls:List Link) (node:Int):(z3_ ls node).length≤3:=List.length_filter_le _ _
theorem aA6_ (node:Int) (ls:List Link) (c:List Int) (hc:c.Pairwise (· < ·)):let K:=ls.foldl (fun c x=>if x.a=node∨x.b=node then insI c x.area else c) c;K.Pairwise (· < ·)∧∀ k,k∈K↔k∈c∨∃ x∈ls,(x.a=node∨x.b=node)∧x.area=k:=by
 induction ls generalizing c with
 | nil=>exact ⟨hc,by simp⟩
 | cons x s ih =>
  rw [List.foldl_cons]
  by_cases h:x.a=node∨x.b=node
  ·rw [if_pos h]
   obtain ⟨h1,h2⟩:=ih _ (jv_ hc x.area)
   refine ⟨h1,fun k=>?_⟩
   rw [h2,mem_insI]
   simp only [List.mem_cons]
   constructor
   ·rintro ((e | e) | ⟨y,hy,e⟩)
    ·exact .inr ⟨x,.inl rfl,h,e.symm⟩
    ·exact .inl e
    ·exact .inr ⟨y,.inr hy,e⟩
   ·rintro (e | ⟨y,rfl | hy,e⟩)
    ·exact .inl (.inr e)
    ·exact .inl (.inl e.2.symm)
    ·exact .inr ⟨y,hy,e⟩
  ·rw [if_neg h]
   obtain ⟨h1,h2⟩:=ih _ hc
   refine ⟨h1,fun k=>?_⟩
   rw [h2]
   simp only [List.mem_cons]
   constructor
   ·rintro (e | ⟨y,hy,e⟩)
    ·exact .inl e
    ·exact .inr ⟨y,.inr hy,e⟩
   ·rintro (e | ⟨y,rfl | hy,e⟩)
    ·exact .inl e
    ·exact absurd e.1 h
    ·exact .inr ⟨y,hy,e⟩
theorem aNa_ {n:Int} {ls:List Link} (h:ascB (xj_ n) xD_ ls=true) (node:Int):ls.foldl (fun c x=>if x.a=node∨x.b=node then insI c x.area else c) []=z3_ ls node:=by
 obtain ⟨h1,h2⟩:=aA6_ node ls [] .nil
 refine jU_ h1 (three_asc.filter _) fun k=>?_
 unfold z3_
 rw [h2,List.mem_filter,mem_three,List.any_eq_true]
 constructor
 ·rintro (e | ⟨x,hx,e,rfl⟩)
  ·cases e
  ·have:=kC_ h hx
   refine ⟨by omega,x,hx,?_⟩
   unfold aa1_
   rcases e with e | e <;> simp [e]
 ·rintro ⟨_,x,hx,e⟩
  unfold aa1_ at e
  simp only [Bool.and_eq_true,Bool.or_eq_true,beq_iff_eq] at e
  exact .inr ⟨x,hx,e.2,e.1⟩
theorem jm_ (t0 t2:T) (ls:List Link) (node n:Int) (h:ascB (xj_ n) xD_ ls=true) (hl:ls.length≤12):y7_ [t0,.l (ls.map zt_),t2,ii node]=some [.l ((z3_ ls node).map eInt)]:=by
 rw [aAz_];simp (disch:=omega) only [↓pq,ps,pz,↓reduceIte,reduceLE,reduceLT,reduceEq,reduceGT,reduceGE,reduceAdd,reduceSub,reduceMul,reduceNeg,yb_,ya_,yn_,aek_]
 refine (zg_ ls (fun j c=>[.l (c.map eInt),ii j]) (fun c x=>if x.a=node∨x.b=node then insI c x.area else c) (fun c=>some [T.l (c.map eInt)]) [] (fun j c=>c.Pairwise (· < ·)∧∀ x∈c,0≤x∧x≤2) rfl (zb_ (by omega)) ⟨.nil,by simp⟩ ?_ ?_).trans (by rw [aNa_ h])
 ·rintro j c hj ⟨c1,c2⟩
  have hm:=kC_ h (z2_ (l:=ls) (n:=(j:Int)) (by omega) hj)
  have hc3:c.length≤3:=by
   have e:c=three.filter fun x=>c.contains x:=jU_ c1 (three_asc.filter _) fun x=>by
    rw [List.mem_filter,mem_three,List.contains_iff_mem]
    exact ⟨fun hx=>⟨c2 x hx,hx⟩,fun hx=>hx.2⟩
   rw [e];exact List.length_filter_le _ _
  by_cases k1:(gt ls j).a=node
  ·rw [if_pos (.inl k1)]
   refine ⟨⟨jv_ c1 _,fun x hx=>by rcases mem_insI.1 hx with rfl | hx;omega;exact c2 x hx⟩,fun q=>?_⟩
   simp (disch:=omega) only [↓pq,ps,pz,↓reduceIte,reduceLE,reduceLT,reduceEq,reduceGT,reduceGE,reduceAdd,reduceSub,reduceMul,reduceNeg,yb_,ya_,yn_,hj,k1]
   refine (azi_ c1 (by omega) _ _).trans ?_
   simp (disch:=omega) only [↓pq,ps,pz,↓reduceIte,reduceLE,reduceLT,reduceEq,reduceGT,reduceGE,reduceAdd,reduceSub,reduceMul,reduceNeg,yb_,ya_,yn_,]
  ·by_cases k2:(gt ls j).b=node
   ·rw [if_pos (.inr k2)]
    refine ⟨⟨jv_ c1 _,fun x hx=>by rcases mem_insI.1 hx with rfl | hx;omega;exact c2 x hx⟩,fun q=>?_⟩
    simp (disch:=omega) only [↓pq,ps,pz,↓reduceIte,reduceLE,reduceLT,reduceEq,reduceGT,reduceGE,reduceAdd,reduceSub,reduceMul,reduceNeg,yb_,ya_,yn_,hj,k1,k2]
    refine (azo_ c1 (by omega) _ _).trans ?_
    simp (disch:=omega) only [↓pq,ps,pz,↓reduceIte,reduceLE,reduceLT,reduceEq,reduceGT,reduceGE,reduceAdd,reduceSub,reduceMul,reduceNeg,yb_,ya_,yn_,]
   ·rw [if_neg (by omega)]
    refine ⟨⟨c1,c2⟩,fun q=>?_⟩
    simp (disch:=omega) only [↓pq,ps,pz,↓reduceIte,reduceLE,reduceLT,reduceEq,reduceGT,reduceGE,reduceAdd,reduceSub,reduceMul,reduceNeg,yb_,ya_,yn_,hj,k1,k2]
 ·rintro c q hc
  simp (disch:=omega) only [↓pq,ps,pz,↓reduceIte,reduceLE,reduceLT,reduceEq,reduceGT,reduceGE,reduceAdd,reduceSub,reduceMul,reduceNeg,yb_,ya_,yn_,]
def af0_ (ls:List Link) (node a:Int):List Int:=six.filter fun v=>decide (y8_ ls node v a > 0)
theorem ao6_ (t0 t2:T) (ls:List Link) (node a:Int) (hl:ls.length≤12):qN_ [t0,.l (ls.map zt_),t2,ii node,ii a]=some [.l ((af0_ ls node a).map eInt)]:=by
 rw [aFw_];simp (disch:=omega) only [↓pq,ps,pz,↓reduceIte,reduceLE,reduceLT,reduceEq,reduceGT,reduceGE,reduceAdd,reduceSub,reduceMul,reduceNeg,uR_,agl_]
 refine (yX_ 6 (fun i c=>[.l (c.map eInt),ii (i+1)]) (fun c i=>if decide (y8_ ls node ((i:Int)+1) a > 0)=true then c++[(i:Int)+1] else c) (fun c=>some [T.l (c.map eInt)]) [] (fun i c=>c.length≤i) rfl (zb_ (by omega)) (by simp) ?_ ?_).trans ?_
 ·intro i c hi hc
  have hi':(i:Int)+1≤6:=by omega
  refine ⟨by split;(· simp;omega);(· omega),fun q=>?_⟩
  by_cases k:y8_ ls node ((i:Int)+1) a > 0
  ·simp (disch:=omega) only [↓pq,ps,pz,↓reduceIte,reduceLE,reduceLT,reduceEq,reduceGT,reduceGE,reduceAdd,reduceSub,reduceMul,reduceNeg,uR_,hi',j6_ _ _ _ _ _ _ (show ls.length≤1048576 by omega),k,decide_true]
  ·simp (disch:=omega) only [↓pq,ps,pz,↓reduceIte,reduceLE,reduceLT,reduceEq,reduceGT,reduceGE,reduceAdd,reduceSub,reduceMul,reduceNeg,uR_,hi',j6_ _ _ _ _ _ _ (show ls.length≤1048576 by omega),k,decide_false,Bool.false_eq_true]
 ·intro c q hc
  simp (disch:=omega) only [↓pq,ps,pz,↓reduceIte,reduceLE,reduceLT,reduceEq,reduceGT,reduceGE,reduceAdd,reduceSub,reduceMul,reduceNeg,uR_,]
 ·unfold af0_
  rw [w0_ (fun i:Nat=>decide (y8_ ls node ((i:Int)+1) a > 0)) (fun i:Nat=>(i:Int)+1),afm_,List.filter_map]
  rfl
theorem aF5_ {n:Int} {ls:List Link} (h:ascB (xj_ n) xD_ ls=true) (node a:Int):(af0_ ls node a).length > 0↔ls.any (aa1_ node a)=true:=by
 unfold af0_
 rw [show ((six.filter fun v=>decide (y8_ ls node v a > 0)).length > 0)↔∃ v∈six,y8_ ls node v a > 0 by
  rw [gt_iff_lt,List.length_pos_iff_exists_mem]
  constructor
  ·rintro ⟨v,hv⟩
   have:=List.mem_filter.1 hv
   exact ⟨v,this.1,by simpa using this.2⟩
  ·rintro ⟨v,hv,e⟩
   exact ⟨v,List.mem_filter.2 ⟨hv,by simpa using e⟩⟩,List.any_eq_true]
 have key:∀ v,y8_ ls node v a > 0↔∃ x∈ls,ys_ node v a x=true:=by
  intro v
  have hz:=aet_ h node v a
  constructor
  ·intro hc
   have h0:0≤zv_ (ys_ node v a) ls:=by
    rcases Int.lt_or_le (zv_ (ys_ node v a) ls) 0 with h1 | h1
    ·have:=hz.2 h1;omega
    ·exact h1
   exact ⟨_,z2_ h0 (wi_ _ _),xs_ _ _ h0⟩
  ·rintro ⟨x,hx,e⟩
   have h0:¬ zv_ (ys_ node v a) ls < 0:=fun hc=>by
    have:=(w4_ _ _).1 hc x hx
    rw [e] at this;cases this
   have h1:=kC_ h (z2_ (l:=ls) (n:=zv_ (ys_ node v a) ls) (by omega) (wi_ _ _))
   unfold y8_
   rw [if_neg h0]
   omega
 constructor
 ·rintro ⟨v,hv,hc⟩
  obtain ⟨x,hx,e⟩:=(key v).1 hc
  refine ⟨x,hx,?_⟩
  unfold ys_ at e
  unfold aa1_
  simp only [Bool.and_eq_true,Bool.or_eq_true,beq_iff_eq] at e ⊢
  rcases e with ⟨e1,e2 | e2⟩
  ·exact ⟨e1,.inl e2.1⟩
  ·exact ⟨e1,.inr e2.2⟩
 ·rintro ⟨x,hx,e⟩
  have hl:=kC_ h hx
  unfold aa1_ at e
  simp only [Bool.and_eq_true,Bool.or_eq_true,beq_iff_eq] at e
  rcases e with ⟨e1,e2 | e2⟩
  ·exact ⟨x.b,mem_six.2 (by omega),(key _).2 ⟨x,hx,by unfold ys_;simp [e1,e2]⟩⟩
  ·exact ⟨x.a,mem_six.2 (by omega),(key _).2 ⟨x,hx,by unfold ys_;simp [e1,e2]⟩⟩
theorem ae4_ (t0 t2:T) (ls:List Link) (node n:Int) (h:ascB (xj_ n) xD_ ls=true) (hl:ls.length≤12):xS_ [t0,.l (ls.map zt_),t2,ii node]=some [.l ((z3_ ls node).map eInt)]:=by
 rw [ay0_];simp (disch:=omega) only [↓pq,ps,pz,↓reduceIte,reduceLE,reduceLT,reduceEq,reduceGT,reduceGE,reduceAdd,reduceSub,reduceMul,reduceNeg,vX_,aes_]
 refine (yX_ 3 (fun i c=>[.l (c.map eInt),ii i]) (fun c i=>if ls.any (aa1_ node (i:Int))=true then c++[(i:Int)] else c) (fun c=>some [T.l (c.map eInt)]) [] (fun i c=>c.length≤i) rfl (zb_ (by omega)) (by simp) ?_ ?_).trans ?_
 ·intro i c hi hc
  have hi':(i:Int)≤2:=by omega
  refine ⟨by split;(· simp;omega);(· omega),fun q=>?_⟩
  have hn:=aF5_ h node (i:Int)
  by_cases k:ls.any (aa1_ node (i:Int))=true
  ·have h1:((af0_ ls node (i:Int)).length:Int) > 0:=by have:=hn.2 k;omega
   simp (disch:=omega) only [↓pq,ps,pz,↓reduceIte,reduceLE,reduceLT,reduceEq,reduceGT,reduceGE,reduceAdd,reduceSub,reduceMul,reduceNeg,vX_,hi',ao6_ _ _ _ _ _ hl,k,h1]
  ·have h1:¬ ((af0_ ls node (i:Int)).length:Int) > 0:=by
    intro hc
    exact k (hn.1 (by omega))
   simp (disch:=omega) only [↓pq,ps,pz,↓reduceIte,reduceLE,reduceLT,reduceEq,reduceGT,reduceGE,reduceAdd,reduceSub,reduceMul,reduceNeg,vX_,hi',ao6_ _ _ _ _ _ hl,k,h1,Bool.false_eq_true]
 ·intro c q hc
  simp (disch:=omega) only [↓pq,ps,pz,↓reduceIte,reduceLE,reduceLT,reduceEq,reduceGT,reduceGE,reduceAdd,reduceSub,reduceMul,reduceNeg,vX_,]
 ·unfold z3_
  rw [w0_ (fun i:Nat=>ls.any (aa1_ node (i:Int))) (fun i:Nat=>(i:Int)),show three=(List.range 3).map (fun i:Nat=>(i:Int)) from rfl,List.filter_map]
  rfl
def vE_ (ls:List Link) (node:Int):Bool:=(z3_ ls node).contains 0 && decide ((z3_ ls node).length > 1)
theorem agq_ (t0 t2:T) (ls:List Link) (node n:Int) (h:ascB (xj_ n) xD_ ls=true) (hl:ls.length≤12):w5_ [t0,.l (ls.map zt_),t2,ii node]=some [bb (vE_ ls node)]:=by
 have hal:=wK_ ls node
 rw [aD5_];simp (disch:=omega) only [↓pq,ps,pz,↓reduceIte,reduceLE,reduceLT,reduceEq,reduceGT,reduceGE,reduceAdd,reduceSub,reduceMul,reduceNeg,ag2_,jm_ _ _ _ _ _ h hl,xF_ _ _ (show (z3_ ls node).length≤1048576 by omega)]
 unfold vE_
 cases (z3_ ls node).contains 0 with
 | true=>simp (disch:=omega) only [↓pq,ps,pz,↓reduceIte,reduceLE,reduceLT,reduceEq,reduceGT,reduceGE,reduceAdd,reduceSub,reduceMul,reduceNeg,];simp;omega
 | false=>simp (disch:=omega) only [↓pq,ps,pz,↓reduceIte,reduceLE,reduceLT,reduceEq,reduceGT,reduceGE,reduceAdd,reduceSub,reduceMul,reduceNeg,Bool.false_eq_true];simp
theorem agf_ (t0 t2:T) (ls:List Link) (node n:Int) (h:ascB (xj_ n) xD_ ls=true) (hl:ls.length≤12):wX_ [t0,.l (ls.map zt_),t2,ii node]=some [bb (vE_ ls node)]:=by
 have hal:=wK_ ls node
 rw [aDr_];simp (disch:=omega) only [↓pq,ps,pz,↓reduceIte,reduceLE,reduceLT,reduceEq,reduceGT,reduceGE,reduceAdd,reduceSub,reduceMul,reduceNeg,ag4_,ae4_ _ _ _ _ _ h hl]
 unfold vE_
 by_cases k:((z3_ ls node).length:Int) > 1
 ·have k':(z3_ ls node).length > 1:=by omega
  have h0:∀ (p:Int→Bool),(three.filter p).length > 1→(three.filter p).contains 0=decide (gt (three.filter p) 0=0):=by
   intro p hp
   unfold three at hp ⊢
   simp only [List.filter_cons,List.filter_nil] at hp ⊢
   revert hp
   cases p 0 <;> cases p 1 <;> cases p 2 <;> first | (intro _;rfl) | (intro h;exact absurd h (by decide))
  rw [show (z3_ ls node).contains 0=decide (gt (z3_ ls node) 0=0) from h0 _ k']
  simp (disch:=omega) only [↓pq,ps,pz,↓reduceIte,reduceLE,reduceLT,reduceEq,reduceGT,reduceGE,reduceAdd,reduceSub,reduceMul,reduceNeg,k,k',decide_true,Bool.and_true]
  rfl
 ·have k':¬ (z3_ ls node).length > 1:=by omega
  simp (disch:=omega) only [↓pq,ps,pz,↓reduceIte,reduceLE,reduceLT,reduceEq,reduceGT,reduceGE,reduceAdd,reduceSub,reduceMul,reduceNeg,k,k',decide_false,Bool.and_false]
end Go.Proofs.YtiebbbmibbkpcaaGreatC

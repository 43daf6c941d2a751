/- Areas and borders of a node. Conditions: none. -/
import Derived.Test.YtjimmglpkndemaaGreatXSO
namespace Go.Proofs.YtjimmglpkndemaaGreatC
open Int renaming reduceLE → Q0_, reduceLT → Q1_, reduceEq → Q2_, reduceGT → Q3_, reduceGE → Q4_, reduceAdd → Q5_, reduceSub → Q6_, reduceMul → Q7_, reduceNeg → Q8_
set_option linter.unusedVariables false
set_option linter.unusedSimpArgs false
theorem kO_ {x:Net} (h:wn_ x=true):ascB (yo_ x.n) zI_ x.links=true∧x.links.length≤12:=by
 unfold wn_ at h
 simp only [bA_,decide_eq_true_eq] at h
 exact ⟨h.1.2,h.1.1.1.2⟩
theorem vy_ {n:Int} {ls:List Link} (h:ascB (yo_ n) zI_ ls=true) {l:Link} (hl:l∈ls):(1≤n∧n≤6)∧(1≤l.a∧l.a≤n)∧(1≤l.b∧l.b≤n)∧l.a < l.b∧(1≤l.cost∧l.cost≤1000)∧0≤l.area∧l.area≤2:=by
 obtain ⟨i,hi,rfl⟩:=List.mem_iff_getElem.1 hl
 have:=allB_iff.1 h i hi
 rw [zm_ hi] at this
 simp only [bA_,yo_,inB_iff,decide_eq_true_eq] at this
 omega
def three:List Int:=[0,1,2]
theorem mem_three {x:Int}:x∈three↔0≤x∧x≤2:=by simp [three];omega
theorem three_asc:three.Pairwise (· < ·):=by unfold three;simp
def aav_ (node a:Int) (l:Link):Bool:=l.area == a && (l.a == node || l.b == node)
def zP_ (ls:List Link) (node:Int):List Int:=three.filter fun a=>ls.any (aav_ node a)
theorem wY_ (ls:List Link) (node:Int):(zP_ ls node).length≤3:=List.length_filter_le _ _
theorem axr_ (node:Int) (ls:List Link) (c:List Int) (hc:c.Pairwise (· < ·)):let K:=ls.foldl (fun c x=>if x.a=node∨x.b=node then insI c x.area else c) c;K.Pairwise (· < ·)∧∀ k,k∈K↔k∈c∨∃ x∈ls,(x.a=node∨x.b=node)∧x.area=k:=by
 induction ls generalizing c with
 | nil=>exact ⟨hc,by simp⟩
 | cons x s ih =>
  rw [List.foldl_cons]
  by_cases h:x.a=node∨x.b=node
  ·rw [if_pos h]
   obtain ⟨h1,h2⟩:=ih _ (ju_ hc x.area)
   refine ⟨h1,fun k=>?_⟩
   rw [h2,mem_insI]
   simp only [List.mem_cons]
   constructor
   ·rintro ((e | e) | ⟨y,hy,e⟩)
    ·exact .inr ⟨x,.inl rfl,h,e.symm⟩
    ·exact .inl e
    ·exact .inr ⟨y,.inr hy,e⟩
   ·rintro (e | ⟨y,rfl | hy,e⟩)
    ·exact .inl (.inr e)
    ·exact .inl (.inl e.2.symm)
    ·exact .inr ⟨y,hy,e⟩
  ·rw [if_neg h]
   obtain ⟨h1,h2⟩:=ih _ hc
   refine ⟨h1,fun k=>?_⟩
   rw [h2]
   simp only [List.mem_cons]
   constructor
   ·rintro (e | ⟨y,hy,e⟩)
    ·exact .inl e
    ·exact .inr ⟨y,.inr hy,e⟩
   ·rintro (e | ⟨y,rfl | hy,e⟩)
    ·exact .inl e
    ·exact absurd e.1 h
    ·exact .inr ⟨y,hy,e⟩
theorem aJk_ {n:Int} {ls:List Link} (h:ascB (yo_ n) zI_ ls=true) (node:Int):ls.foldl (fun c x=>if x.a=node∨x.b=node then insI c x.area else c) []=zP_ ls node:=by
 obtain ⟨h1,h2⟩:=axr_ node ls [] .nil
 refine qD_ h1 (three_asc.filter _) fun k=>?_
 unfold zP_
 rw [h2,List.mem_filter,mem_three,List.any_eq_true]
 constructor
 ·rintro (e | ⟨x,hx,e,rfl⟩)
  ·cases e
  ·have:=vy_ h hx
   refine ⟨by omega,x,hx,?_⟩
   unfold aav_
   rcases e with e | e <;> simp [e]
 ·rintro ⟨_,x,hx,e⟩
  unfold aav_ at e
  simp only [bA_,Bool.or_eq_true,beq_iff_eq] at e
  exact .inr ⟨x,hx,e.2,e.1⟩
theorem kU_ (t0 t2:T) (ls:List Link) (node n:Int) (h:ascB (yo_ n) zI_ ls=true) (hl:ls.length≤12):xX_ [t0,.l (ls.map zr_),t2,ii node]=some [.l ((zP_ ls node).map eInt)]:=by
 rw [az8_];simp (disch:=omega) only [↓pq,↓pj,ps,pz,↓reduceIte,Q0_,Q1_,Q2_,Q3_,Q4_,Q5_,Q6_,Q7_,Q8_,z9_,yb_,yn_,aen_]
 refine (zj_ ls (fun j c=>[.l (c.map eInt),ii j]) (fun c x=>if x.a=node∨x.b=node then insI c x.area else c) (fun c=>some [T.l (c.map eInt)]) [] (fun j c=>c.Pairwise (· < ·)∧∀ x∈c,0≤x∧x≤2) rfl (za_ (by omega)) ⟨.nil,by simp⟩ ?_ ?_).trans (by rw [aJk_ h])
 ·rintro j c hj ⟨c1,c2⟩
  have hm:=vy_ h (zS_ (l:=ls) (n:=(j:Int)) (by omega) hj)
  have hc3:c.length≤3:=by
   have e:c=three.filter fun x=>c.contains x:=qD_ c1 (three_asc.filter _) fun x=>by
    rw [List.mem_filter,mem_three,List.contains_iff_mem]
    exact ⟨fun hx=>⟨c2 x hx,hx⟩,fun hx=>hx.2⟩
   rw [e];exact List.length_filter_le _ _
  by_cases k1:(gt ls j).a=node
  ·rw [if_pos (.inl k1)]
   refine ⟨⟨ju_ c1 _,fun x hx=>by rcases mem_insI.1 hx with rfl | hx;omega;exact c2 x hx⟩,fun q=>?_⟩
   simp (disch:=omega) only [↓pq,↓pj,ps,pz,↓reduceIte,Q0_,Q1_,Q2_,Q3_,Q4_,Q5_,Q6_,Q7_,Q8_,z9_,yb_,yn_,hj,k1]
   refine (azu_ c1 (by omega) _ _).trans ?_
   simp (disch:=omega) only [↓pq,↓pj,ps,pz,↓reduceIte,Q0_,Q1_,Q2_,Q3_,Q4_,Q5_,Q6_,Q7_,Q8_,z9_,yb_,yn_,]
  ·by_cases k2:(gt ls j).b=node
   ·rw [if_pos (.inr k2)]
    refine ⟨⟨ju_ c1 _,fun x hx=>by rcases mem_insI.1 hx with rfl | hx;omega;exact c2 x hx⟩,fun q=>?_⟩
    simp (disch:=omega) only [↓pq,↓pj,ps,pz,↓reduceIte,Q0_,Q1_,Q2_,Q3_,Q4_,Q5_,Q6_,Q7_,Q8_,z9_,yb_,yn_,hj,k1,k2]
    refine (az1_ c1 (by omega) _ _).trans ?_
    simp (disch:=omega) only [↓pq,↓pj,ps,pz,↓reduceIte,Q0_,Q1_,Q2_,Q3_,Q4_,Q5_,Q6_,Q7_,Q8_,z9_,yb_,yn_,]
   ·rw [if_neg (by omega)]
    refine ⟨⟨c1,c2⟩,fun q=>?_⟩
    simp (disch:=omega) only [↓pq,↓pj,ps,pz,↓reduceIte,Q0_,Q1_,Q2_,Q3_,Q4_,Q5_,Q6_,Q7_,Q8_,z9_,yb_,yn_,hj,k1,k2]
 ·rintro c q hc
  simp (disch:=omega) only [↓pq,↓pj,ps,pz,↓reduceIte,Q0_,Q1_,Q2_,Q3_,Q4_,Q5_,Q6_,Q7_,Q8_,z9_,yb_,yn_,]
def afq_ (ls:List Link) (node a:Int):List Int:=six.filter fun v=>decide (yM_ ls node v a > 0)
theorem anu_ (t0 t2:T) (ls:List Link) (node a:Int) (hl:ls.length≤12):qE_ [t0,.l (ls.map zr_),t2,ii node,ii a]=some [.l ((afq_ ls node a).map eInt)]:=by
 rw [aCl_];simp (disch:=omega) only [↓pq,↓pj,ps,pz,↓reduceIte,Q0_,Q1_,Q2_,Q3_,Q4_,Q5_,Q6_,Q7_,Q8_,uS_,ags_]
 refine (yV_ 6 (fun i c=>[.l (c.map eInt),ii (i+1)]) (fun c i=>if decide (yM_ ls node ((i:Int)+1) a > 0)=true then c++[(i:Int)+1] else c) (fun c=>some [T.l (c.map eInt)]) [] (fun i c=>c.length≤i) rfl (za_ (by omega)) (by simp) ?_ ?_).trans ?_
 ·intro i c hi hc
  have hi':(i:Int)+1≤6:=by omega
  refine ⟨by split;(· simp;omega);(· omega),fun q=>?_⟩
  by_cases k:yM_ ls node ((i:Int)+1) a > 0
  ·simp (disch:=omega) only [↓pq,↓pj,ps,pz,↓reduceIte,Q0_,Q1_,Q2_,Q3_,Q4_,Q5_,Q6_,Q7_,Q8_,uS_,hi',j2_ _ _ _ _ _ _ (show ls.length≤1048576 by omega),k,decide_true]
  ·simp (disch:=omega) only [↓pq,↓pj,ps,pz,↓reduceIte,Q0_,Q1_,Q2_,Q3_,Q4_,Q5_,Q6_,Q7_,Q8_,uS_,hi',j2_ _ _ _ _ _ _ (show ls.length≤1048576 by omega),k,decide_false,bF_]
 ·intro c q hc
  simp (disch:=omega) only [↓pq,↓pj,ps,pz,↓reduceIte,Q0_,Q1_,Q2_,Q3_,Q4_,Q5_,Q6_,Q7_,Q8_,uS_,]
 ·unfold afq_
  rw [vR_ (fun i:Nat=>decide (yM_ ls node ((i:Int)+1) a > 0)) (fun i:Nat=>(i:Int)+1),aew_,List.filter_map]
  rfl
theorem aDo_ {n:Int} {ls:List Link} (h:ascB (yo_ n) zI_ ls=true) (node a:Int):(afq_ ls node a).length > 0↔ls.any (aav_ node a)=true:=by
 unfold afq_
 rw [show ((six.filter fun v=>decide (yM_ ls node v a > 0)).length > 0)↔∃ v∈six,yM_ ls node v a > 0 by
  rw [gt_iff_lt,List.length_pos_iff_exists_mem]
  constructor
  ·rintro ⟨v,hv⟩
   have:=List.mem_filter.1 hv
   exact ⟨v,this.1,by simpa using this.2⟩
  ·rintro ⟨v,hv,e⟩
   exact ⟨v,List.mem_filter.2 ⟨hv,by simpa using e⟩⟩,List.any_eq_true]
 have key:∀ v,yM_ ls node v a > 0↔∃ x∈ls,zt_ node v a x=true:=by
  intro v
  have hz:=kM_ h node v a
  constructor
  ·intro hc
   have h0:0≤zn_ (zt_ node v a) ls:=by
    rcases Int.lt_or_le (zn_ (zt_ node v a) ls) 0 with h1 | h1
    ·have:=hz.2 h1;omega
    ·exact h1
   exact ⟨_,zS_ h0 (y9_ _ _),yE_ _ _ h0⟩
  ·rintro ⟨x,hx,e⟩
   have h0:¬ zn_ (zt_ node v a) ls < 0:=fun hc=>by
    have:=(wX_ _ _).1 hc x hx
    rw [e] at this;cases this
   have h1:=vy_ h (zS_ (l:=ls) (n:=zn_ (zt_ node v a) ls) (by omega) (y9_ _ _))
   unfold yM_
   rw [if_neg h0]
   omega
 constructor
 ·rintro ⟨v,hv,hc⟩
  obtain ⟨x,hx,e⟩:=(key v).1 hc
  refine ⟨x,hx,?_⟩
  unfold zt_ at e
  unfold aav_
  simp only [bA_,Bool.or_eq_true,beq_iff_eq] at e ⊢
  rcases e with ⟨e1,e2 | e2⟩
  ·exact ⟨e1,.inl e2.1⟩
  ·exact ⟨e1,.inr e2.2⟩
 ·rintro ⟨x,hx,e⟩
  have hl:=vy_ h hx
  unfold aav_ at e
  simp only [bA_,Bool.or_eq_true,beq_iff_eq] at e
  rcases e with ⟨e1,e2 | e2⟩
  ·exact ⟨x.b,mem_six.2 (by omega),(key _).2 ⟨x,hx,by unfold zt_;simp [e1,e2]⟩⟩
  ·exact ⟨x.a,mem_six.2 (by omega),(key _).2 ⟨x,hx,by unfold zt_;simp [e1,e2]⟩⟩
theorem jd_ (t0 t2:T) (ls:List Link) (node n:Int) (h:ascB (yo_ n) zI_ ls=true) (hl:ls.length≤12):xe_ [t0,.l (ls.map zr_),t2,ii node]=some [.l ((zP_ ls node).map eInt)]:=by
 rw [ay0_];simp (disch:=omega) only [↓pq,↓pj,ps,pz,↓reduceIte,Q0_,Q1_,Q2_,Q3_,Q4_,Q5_,Q6_,Q7_,Q8_,um_,aea_]
 refine (yV_ 3 (fun i c=>[.l (c.map eInt),ii i]) (fun c i=>if ls.any (aav_ node (i:Int))=true then c++[(i:Int)] else c) (fun c=>some [T.l (c.map eInt)]) [] (fun i c=>c.length≤i) rfl (za_ (by omega)) (by simp) ?_ ?_).trans ?_
 ·intro i c hi hc
  have hi':(i:Int)≤2:=by omega
  refine ⟨by split;(· simp;omega);(· omega),fun q=>?_⟩
  have hn:=aDo_ h node (i:Int)
  by_cases k:ls.any (aav_ node (i:Int))=true
  ·have h1:((afq_ ls node (i:Int)).length:Int) > 0:=by have:=hn.2 k;omega
   simp (disch:=omega) only [↓pq,↓pj,ps,pz,↓reduceIte,Q0_,Q1_,Q2_,Q3_,Q4_,Q5_,Q6_,Q7_,Q8_,um_,hi',anu_ _ _ _ _ _ hl,k,h1]
  ·have h1:¬ ((afq_ ls node (i:Int)).length:Int) > 0:=by
    intro hc
    exact k (hn.1 (by omega))
   simp (disch:=omega) only [↓pq,↓pj,ps,pz,↓reduceIte,Q0_,Q1_,Q2_,Q3_,Q4_,Q5_,Q6_,Q7_,Q8_,um_,hi',anu_ _ _ _ _ _ hl,k,h1,bF_]
 ·intro c q hc
  simp (disch:=omega) only [↓pq,↓pj,ps,pz,↓reduceIte,Q0_,Q1_,Q2_,Q3_,Q4_,Q5_,Q6_,Q7_,Q8_,um_,]
 ·unfold zP_
  rw [vR_ (fun i:Nat=>ls.any (aav_ node (i:Int))) (fun i:Nat=>(i:Int)),show three=(List.range 3).map (fun i:Nat=>(i:Int)) from rfl,List.filter_map]
  rfl
def v1_ (ls:List Link) (node:Int):Bool:=(zP_ ls node).contains 0 && decide ((zP_ ls node).length > 1)
theorem apa_ (t0 t2:T) (ls:List Link) (node n:Int) (h:ascB (yo_ n) zI_ ls=true) (hl:ls.length≤12):qI_ [t0,.l (ls.map zr_),t2,ii node]=some [bb (v1_ ls node)]:=by
 have hal:=wY_ ls node
 rw [aBz_];simp (disch:=omega) only [↓pq,↓pj,ps,pz,↓reduceIte,Q0_,Q1_,Q2_,Q3_,Q4_,Q5_,Q6_,Q7_,Q8_,aga_,kU_ _ _ _ _ _ h hl,xM_ _ _ (show (zP_ ls node).length≤1048576 by omega)]
 unfold v1_
 cases (zP_ ls node).contains 0 with
 | true=>simp (disch:=omega) only [↓pq,↓pj,ps,pz,↓reduceIte,Q0_,Q1_,Q2_,Q3_,Q4_,Q5_,Q6_,Q7_,Q8_,];simp;omega
 | false=>simp (disch:=omega) only [↓pq,↓pj,ps,pz,↓reduceIte,Q0_,Q1_,Q2_,Q3_,Q4_,Q5_,Q6_,Q7_,Q8_,bF_];simp
theorem aa0_ (t0 t2:T) (ls:List Link) (node n:Int) (h:ascB (yo_ n) zI_ ls=true) (hl:ls.length≤12):vm_ [t0,.l (ls.map zr_),t2,ii node]=some [bb (v1_ ls node)]:=by
 have hal:=wY_ ls node
 rw [aEd_];simp (disch:=omega) only [↓pq,↓pj,ps,pz,↓reduceIte,Q0_,Q1_,Q2_,Q3_,Q4_,Q5_,Q6_,Q7_,Q8_,ahr_,jd_ _ _ _ _ _ h hl]
 unfold v1_
 by_cases k:((zP_ ls node).length:Int) > 1
 ·have k':(zP_ ls node).length > 1:=by omega
  have h0:∀ (p:Int→Bool),(three.filter p).length > 1→(three.filter p).contains 0=decide (gt (three.filter p) 0=0):=by
   intro p hp
   unfold three at hp ⊢
   simp only [List.filter_cons,List.filter_nil] at hp ⊢
   revert hp
   cases p 0 <;> cases p 1 <;> cases p 2 <;> first | (intro _;rfl) | (intro h;exact absurd h (by decide))
  rw [show (zP_ ls node).contains 0=decide (gt (zP_ ls node) 0=0) from h0 _ k']
  simp (disch:=omega) only [↓pq,↓pj,ps,pz,↓reduceIte,Q0_,Q1_,Q2_,Q3_,Q4_,Q5_,Q6_,Q7_,Q8_,k,k',decide_true,Bool.and_true]
  rfl
 ·have k':¬ (zP_ ls node).length > 1:=by omega
  simp (disch:=omega) only [↓pq,↓pj,ps,pz,↓reduceIte,Q0_,Q1_,Q2_,Q3_,Q4_,Q5_,Q6_,Q7_,Q8_,k,k',decide_false,Bool.and_false]
end Go.Proofs.YtjimmglpkndemaaGreatC

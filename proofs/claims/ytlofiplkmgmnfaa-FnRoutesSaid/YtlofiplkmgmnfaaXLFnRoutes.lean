/- FnRoutes: what the plain programs say. Conditions: none. -/
import Derived.Test.YtlofiplkmgmnfaaXSDg
namespace Go.Proofs.YtlofiplkmgmnfaaC
open Int (reduceLE reduceLT reduceEq reduceGT reduceGE reduceAdd reduceSub reduceMul reduceNeg)
set_option linter.unusedVariables false
set_option linter.unusedSimpArgs false
def ys_FnRoutes:List Ty:=[.sl yByte]
theorem fr_list {s:List Rcd} (hs:storeOk s=true) {A:List Int} {z:Bool} {v:Int} (hv:1≤v∧v≤6) (q:Sem1) :
  iter (G_FnRoutes_l0 F_i_HopsTo F_s_WayTo F_sameInts (ii v) (.l ((routesOf s A z v).map eRoute)) q) rounds [bb false,ii 0,.l ((within s A v).map eWay),.l ((within s A v).map eWay),.l ((beyond s A z v).map eWay),.l ((beyond s A z v).map eWay)]=q [bb false,ii (v+1)]:=by
 have hRl:=routesOf_len s A z v
 have hpw:=routes_lt (s:=s) (A:=A) (z:=z) (fr:=v)
 have hok:=fun r hr=>(routesOf_ok hs (A:=A) (z:=z) (fr:=v) r hr).2
 have hit:=fun r=>route_of (s:=s) (A:=A) (z:=z) (fr:=v) (r:=r)
 generalize routesOf s A z v=R at *
 refine iter_while (fun i=>[bb false,ii (i:Int),.l ((within s A v).map eWay),.l ((within s A v).map eWay),.l ((beyond s A z v).map eWay),.l ((beyond s A z v).map eWay)]) R.length rfl (rounds_lt (by omega)) ?_ ?_
 ·intro i hi q'
  have hm:=gt_mem (l:=R) (n:=(i:Int)) (by omega) hi
  have hh:=hok _ hm
  have prev:(i:Int) > 0→RouteLt (gt R ((i:Int) - 1)) (gt R (i:Int)):=by
   intro h0
   rw [show (i:Int) - 1=((i - 1:Nat):Int) by omega,gt_elem (by omega),gt_elem (by omega)]
   exact List.pairwise_iff_getElem.1 hpw (i - 1) i (by omega) (by omega) (by omega)
  have hi1:(i:Int) > 0→(i:Int) - 1 < R.length:=fun _=>by omega
  have e1:=e_s_WayTo (within s A v) (gt R (i:Int)).to (Nat.le_trans within_len (by decide)) within_hops
  have e2:=e_s_WayTo (beyond s A z v) (gt R (i:Int)).to (Nat.le_trans beyond_len (by decide)) (fun w hw=>by have:=hops_len (beyond_ok hw).2.1;omega)
  have e3:=e_i_HopsTo R (gt R (i:Int)).thing (gt R (i:Int)).to (by omega) (fun r hr=>by have:=hok r hr;omega)
  rw [hops_found hpw hm] at e3
  have e4:=refl_sameInts (gt R (i:Int)).hops (by omega)
  have hit:=hit _ hm
  have hln:Prim.ev .len [.l ((gt R (i:Int)).hops.map eInt)]=some (ii (gt R (i:Int)).hops.length):=ev_lenM
  have hdg:Prim.ev (.dig 6 5) [.l (R.map eRoute),ii i]=some (.l ((gt R (i:Int)).hops.map eInt)):=dig_Route_5 (by omega) hi
  simp (disch:=omega) only [↓pq,ps,pz,↓reduceIte,reduceLE,reduceLT,reduceEq,reduceGT,reduceGE,reduceAdd,reduceSub,reduceMul,reduceNeg,G_FnRoutes_l0,G_FnRoutes_l1,G_FnRoutes_l0,hi]
  refine (jn_to (l:=[bb false]) (fun k'=>?_)).trans ?_
  ·rcases hit with ⟨h1,h2,h3,_⟩ | ⟨h1,h2,h3,_⟩ | ⟨h1,h2,_⟩
   ·by_cases c0:(i:Int) > 0
    ·have p:=prev c0
     have c1:=hi1 c0
     have p1:(gt R ((i:Int) - 1)).thing=false:=by
      cases h:(gt R ((i:Int) - 1)).thing with
      | false=>rfl
      | true=>rw [p.1 h] at h1;cases h1
     by_cases c2:(gt R ((i:Int) - 1)).kind=1
     ·have:=p.2.1 (by rw [c2,h2]) h1
      have c3:¬ ((gt R ((i:Int) - 1)).to ≥ (gt R (i:Int)).to):=by omega
      simp (disch:=omega) only [↓pq,↓pj,ps,pz,↓reduceIte,reduceLE,reduceLT,reduceEq,reduceGT,reduceGE,reduceAdd,reduceSub,reduceMul,reduceNeg,G_FnRoutes_l0,G_FnRoutes_l1,h1,h2,h3,c0,c1,p1,c2,c3,Bool.false_eq_true]
      try rfl
     ·simp (disch:=omega) only [↓pq,↓pj,ps,pz,↓reduceIte,reduceLE,reduceLT,reduceEq,reduceGT,reduceGE,reduceAdd,reduceSub,reduceMul,reduceNeg,G_FnRoutes_l0,G_FnRoutes_l1,h1,h2,h3,c0,c1,p1,c2,Bool.false_eq_true]
    ·simp (disch:=omega) only [↓pq,↓pj,ps,pz,↓reduceIte,reduceLE,reduceLT,reduceEq,reduceGT,reduceGE,reduceAdd,reduceSub,reduceMul,reduceNeg,G_FnRoutes_l0,G_FnRoutes_l1,h1,h2,h3,c0,Bool.false_eq_true]
   ·by_cases c0:(i:Int) > 0
    ·have p:=prev c0
     have c1:=hi1 c0
     have p1:(gt R ((i:Int) - 1)).thing=false:=by
      cases h:(gt R ((i:Int) - 1)).thing with
      | false=>rfl
      | true=>rw [p.1 h] at h1;cases h1
     by_cases c2:(gt R ((i:Int) - 1)).kind=2
     ·have:=p.2.1 (by rw [c2,h2]) h1
      have c3:¬ ((gt R ((i:Int) - 1)).to ≥ (gt R (i:Int)).to):=by omega
      simp (disch:=omega) only [↓pq,↓pj,ps,pz,↓reduceIte,reduceLE,reduceLT,reduceEq,reduceGT,reduceGE,reduceAdd,reduceSub,reduceMul,reduceNeg,G_FnRoutes_l0,G_FnRoutes_l1,h1,h2,h3,c0,c1,p1,c2,c3,Bool.false_eq_true]
      try rfl
     ·simp (disch:=omega) only [↓pq,↓pj,ps,pz,↓reduceIte,reduceLE,reduceLT,reduceEq,reduceGT,reduceGE,reduceAdd,reduceSub,reduceMul,reduceNeg,G_FnRoutes_l0,G_FnRoutes_l1,h1,h2,h3,c0,c1,p1,c2,Bool.false_eq_true]
    ·simp (disch:=omega) only [↓pq,↓pj,ps,pz,↓reduceIte,reduceLE,reduceLT,reduceEq,reduceGT,reduceGE,reduceAdd,reduceSub,reduceMul,reduceNeg,G_FnRoutes_l0,G_FnRoutes_l1,h1,h2,h3,c0,Bool.false_eq_true]
   ·by_cases c0:(i:Int) > 0
    ·have c1:=hi1 c0
     by_cases c2:(gt R ((i:Int) - 1)).kind=(gt R (i:Int)).kind
     ·cases h:(gt R ((i:Int) - 1)).thing with
      | false=>simp (disch:=omega) only [↓pq,↓pj,ps,pz,↓reduceIte,reduceLE,reduceLT,reduceEq,reduceGT,reduceGE,reduceAdd,reduceSub,reduceMul,reduceNeg,G_FnRoutes_l0,G_FnRoutes_l1,h1,c0,c1,c2,h,Bool.false_eq_true]
      | true=>simp (disch:=omega) only [↓pq,↓pj,ps,pz,↓reduceIte,reduceLE,reduceLT,reduceEq,reduceGT,reduceGE,reduceAdd,reduceSub,reduceMul,reduceNeg,G_FnRoutes_l0,G_FnRoutes_l1,h1,c0,c1,c2,h,Bool.false_eq_true]
     ·cases h:(gt R ((i:Int) - 1)).thing with
      | false=>simp (disch:=omega) only [↓pq,↓pj,ps,pz,↓reduceIte,reduceLE,reduceLT,reduceEq,reduceGT,reduceGE,reduceAdd,reduceSub,reduceMul,reduceNeg,G_FnRoutes_l0,G_FnRoutes_l1,h1,c0,c1,c2,h,Bool.false_eq_true]
      | true=>simp (disch:=omega) only [↓pq,↓pj,ps,pz,↓reduceIte,reduceLE,reduceLT,reduceEq,reduceGT,reduceGE,reduceAdd,reduceSub,reduceMul,reduceNeg,G_FnRoutes_l0,G_FnRoutes_l1,h1,c0,c1,c2,h,Bool.false_eq_true]
    ·simp (disch:=omega) only [↓pq,↓pj,ps,pz,↓reduceIte,reduceLE,reduceLT,reduceEq,reduceGT,reduceGE,reduceAdd,reduceSub,reduceMul,reduceNeg,G_FnRoutes_l0,G_FnRoutes_l1,h1,c0,Bool.false_eq_true]
  rcases hit with ⟨h1,h2,h3,w,hw,h4,h5,h6⟩ | ⟨h1,h2,h3,w,hw,h4,h5,h6⟩ | ⟨h1,h2,h3⟩
  ·obtain ⟨g1,g2⟩:=within_at hw
   have g3:=within_not (z:=z) hw
   rw [h4] at g1 g2 g3
   rw [if_neg g1,g2] at e1
   rw [if_pos g3] at e2
   simp only [eWay,List.cons_append,List.nil_append] at e1
   simp (disch:=omega) only [↓pq,ps,pz,↓reduceIte,reduceLE,reduceLT,reduceEq,reduceGT,reduceGE,reduceAdd,reduceSub,reduceMul,reduceNeg,G_FnRoutes_l0,G_FnRoutes_l1,e1,e2,Bool.false_eq_true]
   refine (jn_to (l:=[bb false]) (fun k'=>?_)).trans ?_
   ·simp (disch:=omega) only [↓pq,↓pj,ps,pz,↓reduceIte,reduceLE,reduceLT,reduceEq,reduceGT,reduceGE,reduceAdd,reduceSub,reduceMul,reduceNeg,G_FnRoutes_l0,G_FnRoutes_l1,h2,h5,Bool.false_eq_true]
    try simp
   ·simp (disch:=omega) only [↓pq,ps,pz,↓reduceIte,reduceLE,reduceLT,reduceEq,reduceGT,reduceGE,reduceAdd,reduceSub,reduceMul,reduceNeg,G_FnRoutes_l0,G_FnRoutes_l1,Bool.false_eq_true]
    refine (jn_to (l:=[bb false]) (fun k'=>?_)).trans ?_
    ·by_cases c:((gt R (i:Int)).hops.length:Int) > 0
     ·simp (disch:=omega) only [↓pq,↓pj,ps,pz,↓reduceIte,reduceLE,reduceLT,reduceEq,reduceGT,reduceGE,reduceAdd,reduceSub,reduceMul,reduceNeg,G_FnRoutes_l0,G_FnRoutes_l1,hdg,hln,c,e3,e4]
      try rfl
     ·simp (disch:=omega) only [↓pq,↓pj,ps,pz,↓reduceIte,reduceLE,reduceLT,reduceEq,reduceGT,reduceGE,reduceAdd,reduceSub,reduceMul,reduceNeg,G_FnRoutes_l0,G_FnRoutes_l1,hdg,hln,c]
    ·simp (disch:=omega) only [↓pq,↓pj,ps,pz,↓reduceIte,reduceLE,reduceLT,reduceEq,reduceGT,reduceGE,reduceAdd,reduceSub,reduceMul,reduceNeg,G_FnRoutes_l0,G_FnRoutes_l1,Bool.false_eq_true]
  ·obtain ⟨g1,g2⟩:=beyond_at hw
   have g3:=(beyond_ok hw).2.2.2.2
   rw [h4] at g1 g2 g3
   rw [if_neg g1,g2] at e2
   rw [if_pos g3] at e1
   simp only [eWay,List.cons_append,List.nil_append] at e2
   simp (disch:=omega) only [↓pq,ps,pz,↓reduceIte,reduceLE,reduceLT,reduceEq,reduceGT,reduceGE,reduceAdd,reduceSub,reduceMul,reduceNeg,G_FnRoutes_l0,G_FnRoutes_l1,e1,e2,Bool.false_eq_true]
   refine (jn_to (l:=[bb false]) (fun k'=>?_)).trans ?_
   ·simp (disch:=omega) only [↓pq,↓pj,ps,pz,↓reduceIte,reduceLE,reduceLT,reduceEq,reduceGT,reduceGE,reduceAdd,reduceSub,reduceMul,reduceNeg,G_FnRoutes_l0,G_FnRoutes_l1,h2,h5,Bool.false_eq_true]
    try simp
   ·simp (disch:=omega) only [↓pq,ps,pz,↓reduceIte,reduceLE,reduceLT,reduceEq,reduceGT,reduceGE,reduceAdd,reduceSub,reduceMul,reduceNeg,G_FnRoutes_l0,G_FnRoutes_l1,Bool.false_eq_true]
    refine (jn_to (l:=[bb false]) (fun k'=>?_)).trans ?_
    ·by_cases c:((gt R (i:Int)).hops.length:Int) > 0
     ·simp (disch:=omega) only [↓pq,↓pj,ps,pz,↓reduceIte,reduceLE,reduceLT,reduceEq,reduceGT,reduceGE,reduceAdd,reduceSub,reduceMul,reduceNeg,G_FnRoutes_l0,G_FnRoutes_l1,hdg,hln,c,e3,e4]
      try rfl
     ·simp (disch:=omega) only [↓pq,↓pj,ps,pz,↓reduceIte,reduceLE,reduceLT,reduceEq,reduceGT,reduceGE,reduceAdd,reduceSub,reduceMul,reduceNeg,G_FnRoutes_l0,G_FnRoutes_l1,hdg,hln,c]
    ·simp (disch:=omega) only [↓pq,↓pj,ps,pz,↓reduceIte,reduceLE,reduceLT,reduceEq,reduceGT,reduceGE,reduceAdd,reduceSub,reduceMul,reduceNeg,G_FnRoutes_l0,G_FnRoutes_l1,Bool.false_eq_true]
  ·have k1:¬ (gt R (i:Int)).kind=1:=by omega
   have k2:¬ (gt R (i:Int)).kind=2:=by omega
   by_cases c1:wayP (within s A v) (gt R (i:Int)).to < 0
   ·rw [if_pos c1] at e1
    by_cases c2:wayP (beyond s A z v) (gt R (i:Int)).to < 0
    ·rw [if_pos c2] at e2
     simp (disch:=omega) only [↓pq,ps,pz,↓reduceIte,reduceLE,reduceLT,reduceEq,reduceGT,reduceGE,reduceAdd,reduceSub,reduceMul,reduceNeg,G_FnRoutes_l0,G_FnRoutes_l1,e1,e2,Bool.false_eq_true]
     refine (jn_to (l:=[bb false]) (fun k'=>?_)).trans ?_
     ·simp (disch:=omega) only [↓pq,↓pj,ps,pz,↓reduceIte,reduceLE,reduceLT,reduceEq,reduceGT,reduceGE,reduceAdd,reduceSub,reduceMul,reduceNeg,G_FnRoutes_l0,G_FnRoutes_l1,k1,k2,Bool.false_eq_true]
     ·simp (disch:=omega) only [↓pq,ps,pz,↓reduceIte,reduceLE,reduceLT,reduceEq,reduceGT,reduceGE,reduceAdd,reduceSub,reduceMul,reduceNeg,G_FnRoutes_l0,G_FnRoutes_l1,Bool.false_eq_true]
      refine (jn_to (l:=[bb false]) (fun k'=>?_)).trans ?_
      ·by_cases c:((gt R (i:Int)).hops.length:Int) > 0
       ·simp (disch:=omega) only [↓pq,↓pj,ps,pz,↓reduceIte,reduceLE,reduceLT,reduceEq,reduceGT,reduceGE,reduceAdd,reduceSub,reduceMul,reduceNeg,G_FnRoutes_l0,G_FnRoutes_l1,hdg,hln,c,e3,e4]
        try rfl
       ·simp (disch:=omega) only [↓pq,↓pj,ps,pz,↓reduceIte,reduceLE,reduceLT,reduceEq,reduceGT,reduceGE,reduceAdd,reduceSub,reduceMul,reduceNeg,G_FnRoutes_l0,G_FnRoutes_l1,hdg,hln,c]
      ·simp (disch:=omega) only [↓pq,↓pj,ps,pz,↓reduceIte,reduceLE,reduceLT,reduceEq,reduceGT,reduceGE,reduceAdd,reduceSub,reduceMul,reduceNeg,G_FnRoutes_l0,G_FnRoutes_l1,Bool.false_eq_true]
    ·rw [if_neg c2] at e2
     simp only [eWay,List.cons_append,List.nil_append] at e2
     simp (disch:=omega) only [↓pq,ps,pz,↓reduceIte,reduceLE,reduceLT,reduceEq,reduceGT,reduceGE,reduceAdd,reduceSub,reduceMul,reduceNeg,G_FnRoutes_l0,G_FnRoutes_l1,e1,e2,Bool.false_eq_true]
     refine (jn_to (l:=[bb false]) (fun k'=>?_)).trans ?_
     ·simp (disch:=omega) only [↓pq,↓pj,ps,pz,↓reduceIte,reduceLE,reduceLT,reduceEq,reduceGT,reduceGE,reduceAdd,reduceSub,reduceMul,reduceNeg,G_FnRoutes_l0,G_FnRoutes_l1,k1,k2,Bool.false_eq_true]
     ·simp (disch:=omega) only [↓pq,ps,pz,↓reduceIte,reduceLE,reduceLT,reduceEq,reduceGT,reduceGE,reduceAdd,reduceSub,reduceMul,reduceNeg,G_FnRoutes_l0,G_FnRoutes_l1,Bool.false_eq_true]
      refine (jn_to (l:=[bb false]) (fun k'=>?_)).trans ?_
      ·by_cases c:((gt R (i:Int)).hops.length:Int) > 0
       ·simp (disch:=omega) only [↓pq,↓pj,ps,pz,↓reduceIte,reduceLE,reduceLT,reduceEq,reduceGT,reduceGE,reduceAdd,reduceSub,reduceMul,reduceNeg,G_FnRoutes_l0,G_FnRoutes_l1,hdg,hln,c,e3,e4]
        try rfl
       ·simp (disch:=omega) only [↓pq,↓pj,ps,pz,↓reduceIte,reduceLE,reduceLT,reduceEq,reduceGT,reduceGE,reduceAdd,reduceSub,reduceMul,reduceNeg,G_FnRoutes_l0,G_FnRoutes_l1,hdg,hln,c]
      ·simp (disch:=omega) only [↓pq,↓pj,ps,pz,↓reduceIte,reduceLE,reduceLT,reduceEq,reduceGT,reduceGE,reduceAdd,reduceSub,reduceMul,reduceNeg,G_FnRoutes_l0,G_FnRoutes_l1,Bool.false_eq_true]
   ·rw [if_neg c1] at e1
    simp only [eWay,List.cons_append,List.nil_append] at e1
    by_cases c2:wayP (beyond s A z v) (gt R (i:Int)).to < 0
    ·rw [if_pos c2] at e2
     simp (disch:=omega) only [↓pq,ps,pz,↓reduceIte,reduceLE,reduceLT,reduceEq,reduceGT,reduceGE,reduceAdd,reduceSub,reduceMul,reduceNeg,G_FnRoutes_l0,G_FnRoutes_l1,e1,e2,Bool.false_eq_true]
     refine (jn_to (l:=[bb false]) (fun k'=>?_)).trans ?_
     ·simp (disch:=omega) only [↓pq,↓pj,ps,pz,↓reduceIte,reduceLE,reduceLT,reduceEq,reduceGT,reduceGE,reduceAdd,reduceSub,reduceMul,reduceNeg,G_FnRoutes_l0,G_FnRoutes_l1,k1,k2,Bool.false_eq_true]
     ·simp (disch:=omega) only [↓pq,ps,pz,↓reduceIte,reduceLE,reduceLT,reduceEq,reduceGT,reduceGE,reduceAdd,reduceSub,reduceMul,reduceNeg,G_FnRoutes_l0,G_FnRoutes_l1,Bool.false_eq_true]
      refine (jn_to (l:=[bb false]) (fun k'=>?_)).trans ?_
      ·by_cases c:((gt R (i:Int)).hops.length:Int) > 0
       ·simp (disch:=omega) only [↓pq,↓pj,ps,pz,↓reduceIte,reduceLE,reduceLT,reduceEq,reduceGT,reduceGE,reduceAdd,reduceSub,reduceMul,reduceNeg,G_FnRoutes_l0,G_FnRoutes_l1,hdg,hln,c,e3,e4]
        try rfl
       ·simp (disch:=omega) only [↓pq,↓pj,ps,pz,↓reduceIte,reduceLE,reduceLT,reduceEq,reduceGT,reduceGE,reduceAdd,reduceSub,reduceMul,reduceNeg,G_FnRoutes_l0,G_FnRoutes_l1,hdg,hln,c]
      ·simp (disch:=omega) only [↓pq,↓pj,ps,pz,↓reduceIte,reduceLE,reduceLT,reduceEq,reduceGT,reduceGE,reduceAdd,reduceSub,reduceMul,reduceNeg,G_FnRoutes_l0,G_FnRoutes_l1,Bool.false_eq_true]
    ·rw [if_neg c2] at e2
     simp only [eWay,List.cons_append,List.nil_append] at e2
     simp (disch:=omega) only [↓pq,ps,pz,↓reduceIte,reduceLE,reduceLT,reduceEq,reduceGT,reduceGE,reduceAdd,reduceSub,reduceMul,reduceNeg,G_FnRoutes_l0,G_FnRoutes_l1,e1,e2,Bool.false_eq_true]
     refine (jn_to (l:=[bb false]) (fun k'=>?_)).trans ?_
     ·simp (disch:=omega) only [↓pq,↓pj,ps,pz,↓reduceIte,reduceLE,reduceLT,reduceEq,reduceGT,reduceGE,reduceAdd,reduceSub,reduceMul,reduceNeg,G_FnRoutes_l0,G_FnRoutes_l1,k1,k2,Bool.false_eq_true]
     ·simp (disch:=omega) only [↓pq,ps,pz,↓reduceIte,reduceLE,reduceLT,reduceEq,reduceGT,reduceGE,reduceAdd,reduceSub,reduceMul,reduceNeg,G_FnRoutes_l0,G_FnRoutes_l1,Bool.false_eq_true]
      refine (jn_to (l:=[bb false]) (fun k'=>?_)).trans ?_
      ·by_cases c:((gt R (i:Int)).hops.length:Int) > 0
       ·simp (disch:=omega) only [↓pq,↓pj,ps,pz,↓reduceIte,reduceLE,reduceLT,reduceEq,reduceGT,reduceGE,reduceAdd,reduceSub,reduceMul,reduceNeg,G_FnRoutes_l0,G_FnRoutes_l1,hdg,hln,c,e3,e4]
        try rfl
       ·simp (disch:=omega) only [↓pq,↓pj,ps,pz,↓reduceIte,reduceLE,reduceLT,reduceEq,reduceGT,reduceGE,reduceAdd,reduceSub,reduceMul,reduceNeg,G_FnRoutes_l0,G_FnRoutes_l1,hdg,hln,c]
      ·simp (disch:=omega) only [↓pq,↓pj,ps,pz,↓reduceIte,reduceLE,reduceLT,reduceEq,reduceGT,reduceGE,reduceAdd,reduceSub,reduceMul,reduceNeg,G_FnRoutes_l0,G_FnRoutes_l1,Bool.false_eq_true]
 ·intro q'
  have hz:¬ ((R.length:Int) < R.length):=by omega
  simp (disch:=omega) only [↓pq,↓pj,ps,pz,↓reduceIte,reduceLE,reduceLT,reduceEq,reduceGT,reduceGE,reduceAdd,reduceSub,reduceMul,reduceNeg,G_FnRoutes_l0,G_FnRoutes_l1,G_FnRoutes_l0,hz]
theorem true_FnRoutes (ts:List T) (h:WTs ys_FnRoutes ts):F_FnRoutes ts=some [.c (.bool true)]:=by
 obtain ⟨B,rfl,hB⟩:=dec_code ts h
 rw [g_FnRoutes]
 by_cases hb:(B.length:Int) > 1048576
 ·simp (disch:=omega) only [↓pq,↓pj,ps,pz,↓reduceIte,reduceLE,reduceLT,reduceEq,reduceGT,reduceGE,reduceAdd,reduceSub,reduceMul,reduceNeg,G_FnRoutes_l0,G_FnRoutes_l1,G_FnRoutes,e_big,hb,decide_true]
 obtain ⟨x,L,U,e,hx,hn2,ht,hL,hU⟩:=e_s_DrawRightNet hB (by omega)
 have hlk:=netOk_links hx
 have hn:=netOk_n hx
 have hi:idealB x L U=true:=by unfold idealB;simp [hx,hL,hU]
 have eI:=e_s_Ideal x.n x.links x.things L U (by omega) (by omega)
 have hS:=ideal_sto (L:=L) (U:=U) hx
 have hx':(⟨x.n,x.links,x.things⟩:Net)=x:=rfl
 rw [hx',if_pos hi] at eI
 have hs:=hS.ok (by decide)
 have hsl:=hS.len
 have hsn:=hS.near
 generalize ideal x L U=s at *
 simp (disch:=omega) only [↓pq,↓pj,ps,pz,↓reduceIte,reduceLE,reduceLT,reduceEq,reduceGT,reduceGE,reduceAdd,reduceSub,reduceMul,reduceNeg,G_FnRoutes_l0,G_FnRoutes_l1,G_FnRoutes,e_big,hb,decide_false,e,eI]
 refine iter_while (fun j=>[bb false,ii ((j:Int)+1)]) x.n.toNat rfl (rounds_lt (by omega)) ?_ ?_
 ·intro j hj q
  have hj':(j:Int)+1≤x.n:=by omega
  have hA:=areasOf_len x.links ((j:Int)+1)
  have e1:=e_s_AreasOf (ii x.n) (.l (x.things.map eThing)) x.links ((j:Int)+1) x.n hlk.1 hlk.2
  have e2:=e_s_Border (ii x.n) (.l (x.things.map eThing)) x.links ((j:Int)+1) x.n hlk.1 hlk.2
  have e3:=e_i_RoutesOf s (areasOf x.links ((j:Int)+1)) (border x.links ((j:Int)+1)) ((j:Int)+1) (by omega) hsn hs (by omega)
  have e4:=e_s_RoutesOf s (areasOf x.links ((j:Int)+1)) (border x.links ((j:Int)+1)) ((j:Int)+1) (by omega) hsn hs (by omega)
  have e5:=e_i_RoutesWithin s (areasOf x.links ((j:Int)+1)) ((j:Int)+1) (by omega) hsn (by omega)
  have e6:=e_i_RoutesBeyond s (areasOf x.links ((j:Int)+1)) (border x.links ((j:Int)+1)) ((j:Int)+1) (by omega) hsn (by omega)
  have e7:=refl_sameRoutes (routesOf s (areasOf x.links ((j:Int)+1)) (border x.links ((j:Int)+1)) ((j:Int)+1)) (by have:=routesOf_len s (areasOf x.links ((j:Int)+1)) (border x.links ((j:Int)+1)) ((j:Int)+1);omega) (fun r hr=>by have:=(routesOf_ok hs r hr).2;omega)
  simp (disch:=omega) only [↓pq,↓pj,ps,pz,↓reduceIte,reduceLE,reduceLT,reduceEq,reduceGT,reduceGE,reduceAdd,reduceSub,reduceMul,reduceNeg,G_FnRoutes_l0,G_FnRoutes_l1,G_FnRoutes_l1,hj',e1,e2,e3,e4,e5,e6,e7]
  exact fr_list hs (by omega) q
 ·intro q
  have hj':¬ ((x.n.toNat:Int)+1≤x.n):=by omega
  have e1:=e_i_HopsTo [] false 1 (by simp) (by simp)
  rw [if_pos (by simp [findP_nil])] at e1
  simp (disch:=omega) only [↓pq,↓pj,ps,pz,↓reduceIte,reduceLE,reduceLT,reduceEq,reduceGT,reduceGE,reduceAdd,reduceSub,reduceMul,reduceNeg,G_FnRoutes_l0,G_FnRoutes_l1,G_FnRoutes_l1,hj',e1]
  rfl
end Go.Proofs.YtlofiplkmgmnfaaC

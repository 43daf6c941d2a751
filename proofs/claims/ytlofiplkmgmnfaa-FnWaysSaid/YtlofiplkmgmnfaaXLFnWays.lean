/- FnWays: what the plain programs say. Conditions: none. -/
import Derived.Test.YtlofiplkmgmnfaaXSDe
namespace Go.Proofs.YtlofiplkmgmnfaaC
open Int (reduceLE reduceLT reduceEq reduceGT reduceGE reduceAdd reduceSub reduceMul reduceNeg)
set_option linter.unusedVariables false
set_option linter.unusedSimpArgs false
def ys_FnWays:List Ty:=[.sl yByte]
section
variable {s:List Rcd} {ar v:Int}
theorem ways_hops (hs:storeOk s=true) (hv:In6 v) (hp:0≤nodeP s ar v) {w:Way} (hw:w∈waysIn s ar v) (hne:w.to≠v) (u:Int) :
  w.hops.contains u=(decide (linkC s ar v u > 0) && (decide (¬ wayP (waysIn s ar u) w.to < 0) && decide (linkC s ar v u+(gt (waysIn s ar u) (wayP (waysIn s ar u) w.to)).cost=w.cost))):=by
 obtain ⟨a1,a2⟩:=waysIn_spec hs hv hp
 obtain ⟨b1,b2,b3,b4⟩:=a1 w hw
 have hb:=linkC_bnd hs ar v u
 rw [Bool.eq_iff_iff]
 simp only [List.contains_iff_mem,Bool.and_eq_true,decide_eq_true_eq]
 rw [b4 hne u]
 constructor
 ·rintro ⟨h1,n,h2,h3⟩
  have hu:=h2.l
  have hpu:=(link_node h1).2
  obtain ⟨c1,c2⟩:=waysIn_spec hs hu hpu
  obtain ⟨x,hx,e⟩:=c2 _ _ h2
  have hq:=wayP_in hx e
  obtain ⟨d1,d2⟩:=wayP_some hq
  obtain ⟨e1,e2,e3,e4⟩:=c1 _ d1
  rw [d2] at e2 e3
  have h4:=e3 n h2
  have h5:=b3 _ (Pa.cons hv h1 e2)
  exact ⟨by omega,hq,by omega⟩
 ·rintro ⟨h1,h2,h3⟩
  have h0:linkC s ar v u≠0:=by omega
  have hu:=link_in6 hs h0
  obtain ⟨c1,c2⟩:=waysIn_spec hs hu (link_node h0).2
  obtain ⟨d1,d2⟩:=wayP_some h2
  obtain ⟨e1,e2,e3,e4⟩:=c1 _ d1
  rw [d2] at e2
  exact ⟨h0,_,e2,h3⟩
theorem ways_rel (hs:storeOk s=true) (hv:In6 v) (hp:0≤nodeP s ar v) {w:Way} (hw:w∈waysIn s ar v) (u:Int) (hl:linkC s ar w.to u > 0) :
  ¬ wayP (waysIn s ar v) u < 0∧(gt (waysIn s ar v) (wayP (waysIn s ar v) u)).cost≤w.cost+linkC s ar w.to u:=by
 obtain ⟨a1,a2⟩:=waysIn_spec hs hv hp
 obtain ⟨b1,b2,b3,b4⟩:=a1 w hw
 have h0:linkC s ar w.to u≠0:=by omega
 have hpa:=b2.snoc h0 (link_in6 hs h0)
 obtain ⟨x,hx,e⟩:=a2 _ _ hpa
 have hq:=wayP_in hx e
 obtain ⟨d1,d2⟩:=wayP_some hq
 obtain ⟨e1,e2,e3,e4⟩:=a1 _ d1
 rw [d2] at e3
 exact ⟨hq,e3 _ hpa⟩
theorem fw_hops (hs:storeOk s=true) (hl:s.length≤1048576) (hn:NearL s) (hv:In6 v) (hp:0≤nodeP s ar v) {n:Int} (hn6:1≤n∧n≤6) {i:Nat} (hi:(i:Int) < (waysIn s ar v).length) (q:Sem1) :
  iter (G_FnWays_l0 F_in F_s_Linked F_s_WayTo F_s_WaysIn (ii n) (.l (s.map eRcd)) (ii ar) (ii v) (.l ((waysIn s ar v).map eWay)) (ii i) (ii (gt (waysIn s ar v) i).to) (ii (gt (waysIn s ar v) i).cost) q) rounds [bb false,ii 1]=q [bb false,ii (i+1)]:=by
 have hw:=gt_mem (l:=waysIn s ar v) (n:=(i:Int)) (by omega) hi
 generalize hgw:gt (waysIn s ar v) (i:Int)=w at hw
 obtain ⟨z1,z2,z3,z4⟩:=waysIn_ok.2.2 _ hw
 have hhl:=hops_len z2
 have hil:=waysIn_len (s:=s) (a:=ar) (fr:=v)
 refine iter_while (fun j=>[bb false,ii ((j:Int)+1)]) n.toNat rfl (rounds_lt (by omega)) ?_ ?_
 ·intro j hj q'
  have hj':(j:Int)+1≤n:=by omega
  have e1:=e_s_WaysIn s ar (j+1) hl hn
  have hb:=linkC_bnd hs ar v (j+1)
  have e3:=e_s_WayTo (waysIn s ar (j+1)) w.to (by have:=waysIn_len (s:=s) (a:=ar) (fr:=j+1);omega) waysIn_hops
  have e4:=e_in w.hops (j+1) (by omega)
  by_cases c1:w.to=v
  ·by_cases c2:wayP (waysIn s ar (j+1)) w.to < 0
   ·rw [if_pos c2,c1] at e3
    simp (disch:=omega) only [↓pq,ps,pz,↓reduceIte,reduceLE,reduceLT,reduceEq,reduceGT,reduceGE,reduceAdd,reduceSub,reduceMul,reduceNeg,G_FnWays_l0,G_FnWays_l1,G_FnWays_l2,G_FnWays_l3,G_FnWays_l4,G_FnWays_l5,G_FnWays_l6,G_FnWays_l0,hj',e_s_Linked _ _ _ _ hl hn,e1,e3,hi,hgw,c1]
   ·rw [if_neg c2,c1] at e3
    simp only [eWay,List.cons_append,List.nil_append] at e3
    simp (disch:=omega) only [↓pq,ps,pz,↓reduceIte,reduceLE,reduceLT,reduceEq,reduceGT,reduceGE,reduceAdd,reduceSub,reduceMul,reduceNeg,G_FnWays_l0,G_FnWays_l1,G_FnWays_l2,G_FnWays_l3,G_FnWays_l4,G_FnWays_l5,G_FnWays_l6,G_FnWays_l0,hj',e_s_Linked _ _ _ _ hl hn,e1,e3,hi,hgw,c1]
  ·have key:=ways_hops hs hv hp hw c1 ((j:Int)+1)
   rw [key] at e4
   by_cases c3:linkC s ar v ((j:Int)+1) > 0
   ·by_cases c2:wayP (waysIn s ar (j+1)) w.to < 0
    ·rw [if_pos c2] at e3
     simp only [c2,c3,not_true_eq_false,decide_true,decide_false,Bool.and_true,Bool.true_and,Bool.and_false,Bool.false_and] at e4
     simp (disch:=omega) only [↓pq,ps,pz,↓reduceIte,reduceLE,reduceLT,reduceEq,reduceGT,reduceGE,reduceAdd,reduceSub,reduceMul,reduceNeg,G_FnWays_l0,G_FnWays_l1,G_FnWays_l2,G_FnWays_l3,G_FnWays_l4,G_FnWays_l5,G_FnWays_l6,G_FnWays_l0,hj',e_s_Linked _ _ _ _ hl hn,e1,e3,hi,hgw,c1,e4,c3]
     try rfl
    ·rw [if_neg c2] at e3
     simp only [eWay,List.cons_append,List.nil_append] at e3
     have hfc:=(waysIn_ok.2.2 _ (wayP_some c2).1).2.2
     generalize gt (waysIn s ar ((j:Int)+1)) (wayP (waysIn s ar ((j:Int)+1)) w.to)=f at *
     by_cases c4:linkC s ar v ((j:Int)+1)+f.cost=w.cost
     ·simp only [c2,c3,c4,not_false_eq_true,decide_true,decide_false,Bool.and_true,Bool.true_and,Bool.and_false,Bool.false_and] at e4
      simp (disch:=omega) only [↓pq,ps,pz,↓reduceIte,reduceLE,reduceLT,reduceEq,reduceGT,reduceGE,reduceAdd,reduceSub,reduceMul,reduceNeg,G_FnWays_l0,G_FnWays_l1,G_FnWays_l2,G_FnWays_l3,G_FnWays_l4,G_FnWays_l5,G_FnWays_l6,G_FnWays_l0,hj',e_s_Linked _ _ _ _ hl hn,e1,e3,hi,hgw,c1,e4,c3,c4]
      try rfl
     ·simp only [c2,c3,c4,not_false_eq_true,decide_true,decide_false,Bool.and_true,Bool.true_and,Bool.and_false,Bool.false_and] at e4
      simp (disch:=omega) only [↓pq,ps,pz,↓reduceIte,reduceLE,reduceLT,reduceEq,reduceGT,reduceGE,reduceAdd,reduceSub,reduceMul,reduceNeg,G_FnWays_l0,G_FnWays_l1,G_FnWays_l2,G_FnWays_l3,G_FnWays_l4,G_FnWays_l5,G_FnWays_l6,G_FnWays_l0,hj',e_s_Linked _ _ _ _ hl hn,e1,e3,hi,hgw,c1,e4,c3,c4]
      try rfl
   ·simp only [c3,decide_true,decide_false,Bool.and_true,Bool.true_and,Bool.and_false,Bool.false_and] at e4
    by_cases c2:wayP (waysIn s ar (j+1)) w.to < 0
    ·rw [if_pos c2] at e3
     simp (disch:=omega) only [↓pq,ps,pz,↓reduceIte,reduceLE,reduceLT,reduceEq,reduceGT,reduceGE,reduceAdd,reduceSub,reduceMul,reduceNeg,G_FnWays_l0,G_FnWays_l1,G_FnWays_l2,G_FnWays_l3,G_FnWays_l4,G_FnWays_l5,G_FnWays_l6,G_FnWays_l0,hj',e_s_Linked _ _ _ _ hl hn,e1,e3,hi,hgw,c1,e4,c3]
     try rfl
    ·rw [if_neg c2] at e3
     simp only [eWay,List.cons_append,List.nil_append] at e3
     simp (disch:=omega) only [↓pq,ps,pz,↓reduceIte,reduceLE,reduceLT,reduceEq,reduceGT,reduceGE,reduceAdd,reduceSub,reduceMul,reduceNeg,G_FnWays_l0,G_FnWays_l1,G_FnWays_l2,G_FnWays_l3,G_FnWays_l4,G_FnWays_l5,G_FnWays_l6,G_FnWays_l0,hj',e_s_Linked _ _ _ _ hl hn,e1,e3,hi,hgw,c1,e4,c3]
     try rfl
 ·intro q'
  have hj':¬ ((n.toNat:Int)+1≤n):=by omega
  simp (disch:=omega) only [↓pq,ps,pz,↓reduceIte,reduceLE,reduceLT,reduceEq,reduceGT,reduceGE,reduceAdd,reduceSub,reduceMul,reduceNeg,G_FnWays_l0,G_FnWays_l1,G_FnWays_l2,G_FnWays_l3,G_FnWays_l4,G_FnWays_l5,G_FnWays_l6,G_FnWays_l0,hj']
theorem fw_rel (hs:storeOk s=true) (hl:s.length≤1048576) (hn:NearL s) (hv:In6 v) (hp:0≤nodeP s ar v) {n:Int} (hn6:1≤n∧n≤6) {i:Nat} (hi:(i:Int) < (waysIn s ar v).length) (q:Sem1) :
  iter (G_FnWays_l1 rounds F_i_Linked F_i_WayTo F_in F_s_Linked F_s_WayTo F_s_WaysIn (ii n) (.l (s.map eRcd)) (ii ar) (ii v) (.l ((waysIn s ar v).map eWay)) (ii i) (ii (gt (waysIn s ar v) i).to) (ii (gt (waysIn s ar v) i).cost) q) rounds [bb false,ii 1]=q [bb false,ii (i+1)]:=by
 have hw:=gt_mem (l:=waysIn s ar v) (n:=(i:Int)) (by omega) hi
 have tail:=fw_hops hs hl hn hv hp hn6 hi q
 generalize hgw:gt (waysIn s ar v) (i:Int)=w at hw tail ⊢
 obtain ⟨z1,z2,z3,z4⟩:=waysIn_ok.2.2 _ hw
 refine iter_while (fun j=>[bb false,ii ((j:Int)+1)]) n.toNat rfl (rounds_lt (by omega)) ?_ ?_
 ·intro j hj q'
  have hj':(j:Int)+1≤n:=by omega
  have hb:=linkC_bnd hs ar w.to (j+1)
  have e3:=e_i_WayTo (waysIn s ar v) (j+1) (by have:=waysIn_len (s:=s) (a:=ar) (fr:=v);omega) waysIn_hops
  by_cases c3:linkC s ar w.to ((j:Int)+1) > 0
  ·obtain ⟨k1,k2⟩:=ways_rel hs hv hp hw ((j:Int)+1) c3
   rw [if_neg k1] at e3
   simp only [eWay,List.cons_append,List.nil_append] at e3
   have hfc:=(waysIn_ok.2.2 _ (wayP_some k1).1).2.2
   generalize gt (waysIn s ar v) (wayP (waysIn s ar v) ((j:Int)+1))=f at *
   have k3:¬ (f.cost > w.cost+linkC s ar w.to ((j:Int)+1)):=by omega
   simp (disch:=omega) only [↓pq,ps,pz,↓reduceIte,reduceLE,reduceLT,reduceEq,reduceGT,reduceGE,reduceAdd,reduceSub,reduceMul,reduceNeg,G_FnWays_l0,G_FnWays_l1,G_FnWays_l2,G_FnWays_l3,G_FnWays_l4,G_FnWays_l5,G_FnWays_l6,G_FnWays_l1,hj',e_i_Linked _ _ _ _ hl hn,e3,c3,k3]
  ·by_cases c2:wayP (waysIn s ar v) ((j:Int)+1) < 0
   ·rw [if_pos c2] at e3
    simp (disch:=omega) only [↓pq,ps,pz,↓reduceIte,reduceLE,reduceLT,reduceEq,reduceGT,reduceGE,reduceAdd,reduceSub,reduceMul,reduceNeg,G_FnWays_l0,G_FnWays_l1,G_FnWays_l2,G_FnWays_l3,G_FnWays_l4,G_FnWays_l5,G_FnWays_l6,G_FnWays_l1,hj',e_i_Linked _ _ _ _ hl hn,e3,c3]
   ·rw [if_neg c2] at e3
    simp only [eWay,List.cons_append,List.nil_append] at e3
    simp (disch:=omega) only [↓pq,ps,pz,↓reduceIte,reduceLE,reduceLT,reduceEq,reduceGT,reduceGE,reduceAdd,reduceSub,reduceMul,reduceNeg,G_FnWays_l0,G_FnWays_l1,G_FnWays_l2,G_FnWays_l3,G_FnWays_l4,G_FnWays_l5,G_FnWays_l6,G_FnWays_l1,hj',e_i_Linked _ _ _ _ hl hn,e3,c3]
 ·intro q'
  have hj':¬ ((n.toNat:Int)+1≤n):=by omega
  simp (disch:=omega) only [↓pq,ps,pz,↓reduceIte,reduceLE,reduceLT,reduceEq,reduceGT,reduceGE,reduceAdd,reduceSub,reduceMul,reduceNeg,G_FnWays_l0,G_FnWays_l1,G_FnWays_l2,G_FnWays_l3,G_FnWays_l4,G_FnWays_l5,G_FnWays_l6,G_FnWays_l1,hj',tail]
theorem fw_list (hs:storeOk s=true) (hl:s.length≤1048576) (hn:NearL s) (hv:In6 v) (hp:0≤nodeP s ar v) {n:Int} (hn6:1≤n∧n≤6) (q:Sem1) :
  iter (G_FnWays_l4 rounds F_i_Linked F_i_WayTo F_in F_s_Linked F_s_WayTo F_s_WaysIn (ii n) (.l (s.map eRcd)) (ii ar) (ii v) (.l ((waysIn s ar v).map eWay)) q) rounds [bb false,ii 0]=q [bb false,ii (v+1)]:=by
 have hil:=waysIn_len (s:=s) (a:=ar) (fr:=v)
 have hv1:=hv.1
 have hv2:=hv.2
 obtain ⟨a1,a2⟩:=waysIn_spec hs hv hp
 refine iter_while (fun i=>[bb false,ii (i:Int)]) (waysIn s ar v).length rfl (rounds_lt (by omega)) ?_ ?_
 ·intro i hi q'
  have hw:=gt_mem (l:=waysIn s ar v) (n:=(i:Int)) (by omega) hi
  have tail:=fw_rel hs hl hn hv hp hn6 hi q'
  have asc:(i:Int) > 0→¬ ((gt (waysIn s ar v) ((i:Int) - 1)).to ≥ (gt (waysIn s ar v) (i:Int)).to):=by
   intro h0
   rw [show (i:Int) - 1=((i - 1:Nat):Int) by omega,gt_elem (by omega),gt_elem (by omega)]
   have:=List.pairwise_iff_getElem.1 (waysIn_ok (s:=s) (ar:=ar) (fr:=v)).1 (i - 1) i (by omega) (by omega) (by omega)
   omega
  obtain ⟨b1,b2,b3,b4⟩:=a1 _ hw
  have hz:(gt (waysIn s ar v) (i:Int)).cost=0↔(gt (waysIn s ar v) (i:Int)).to=v:=by
   have:=b2.nn hs
   constructor
   ·exact fun h=>(this.2 h).symm
   ·intro h
    have:=b3 0 (by rw [h];exact .nil hv)
    omega
  by_cases c1:(gt (waysIn s ar v) (i:Int)).to=v
  ·have c2:=hz.2 c1
   by_cases c0:(i:Int) > 0
   ·have c3:=asc c0
    rw [c1] at c3 tail
    rw [c2] at tail
    have hi1:(i:Int) - 1 < (waysIn s ar v).length:=by omega
    simp (disch:=omega) only [↓pq,ps,pz,↓reduceIte,reduceLE,reduceLT,reduceEq,reduceGT,reduceGE,reduceAdd,reduceSub,reduceMul,reduceNeg,G_FnWays_l0,G_FnWays_l1,G_FnWays_l2,G_FnWays_l3,G_FnWays_l4,G_FnWays_l5,G_FnWays_l6,G_FnWays_l4,hi,c1,c2,c0,hi1,c3]
    exact tail
   ·rw [c1,c2] at tail
    simp (disch:=omega) only [↓pq,ps,pz,↓reduceIte,reduceLE,reduceLT,reduceEq,reduceGT,reduceGE,reduceAdd,reduceSub,reduceMul,reduceNeg,G_FnWays_l0,G_FnWays_l1,G_FnWays_l2,G_FnWays_l3,G_FnWays_l4,G_FnWays_l5,G_FnWays_l6,G_FnWays_l4,hi,c1,c2,c0]
    exact tail
  ·have c2:¬ (gt (waysIn s ar v) (i:Int)).cost=0:=fun h=>c1 (hz.1 h)
   by_cases c0:(i:Int) > 0
   ·have c3:=asc c0
    have hi1:(i:Int) - 1 < (waysIn s ar v).length:=by omega
    simp (disch:=omega) only [↓pq,ps,pz,↓reduceIte,reduceLE,reduceLT,reduceEq,reduceGT,reduceGE,reduceAdd,reduceSub,reduceMul,reduceNeg,G_FnWays_l0,G_FnWays_l1,G_FnWays_l2,G_FnWays_l3,G_FnWays_l4,G_FnWays_l5,G_FnWays_l6,G_FnWays_l4,hi,c1,c2,c0,hi1,c3]
    exact tail
   ·simp (disch:=omega) only [↓pq,ps,pz,↓reduceIte,reduceLE,reduceLT,reduceEq,reduceGT,reduceGE,reduceAdd,reduceSub,reduceMul,reduceNeg,G_FnWays_l0,G_FnWays_l1,G_FnWays_l2,G_FnWays_l3,G_FnWays_l4,G_FnWays_l5,G_FnWays_l6,G_FnWays_l4,hi,c1,c2,c0]
    exact tail
 ·intro q'
  have hz:¬ (((waysIn s ar v).length:Int) < (waysIn s ar v).length):=by omega
  simp (disch:=omega) only [↓pq,ps,pz,↓reduceIte,reduceLE,reduceLT,reduceEq,reduceGT,reduceGE,reduceAdd,reduceSub,reduceMul,reduceNeg,G_FnWays_l0,G_FnWays_l1,G_FnWays_l2,G_FnWays_l3,G_FnWays_l4,G_FnWays_l5,G_FnWays_l6,G_FnWays_l4,hz]
end
theorem fw_node {s:List Rcd} {ar:Int} (hs:storeOk s=true) (hl:s.length≤1048576) (hn:NearL s) {n:Int} (hn6:1≤n∧n≤6) (har:0≤ar∧ar≤2) (q:Sem1) :
  iter (G_FnWays_l5 rounds F_i_Linked F_i_WayTo F_i_WaysIn F_in F_s_Find F_s_Linked F_s_WayTo F_s_WaysIn (ii n) (.l (s.map eRcd)) (ii ar) q) rounds [bb false,ii 1]=q [bb false,ii (ar+1)]:=by
 refine iter_while (fun j=>[bb false,ii ((j:Int)+1)]) n.toNat rfl (rounds_lt (by omega)) ?_ ?_
 ·intro j hj q'
  have hj':(j:Int)+1≤n:=by omega
  have hv:In6 ((j:Int)+1):=⟨by omega,by omega⟩
  have e1:=e_i_WaysIn s ar (j+1) hl hn
  have e2:=find_s s ⟨ar,1,(j:Int)+1,0,0,[],0,false⟩ (ii 0) (.l []) (ii 0) (bb false) hl hn
  rw [show keyP s ⟨ar,1,(j:Int)+1,0,0,[],0,false⟩=nodeP s ar (j+1) from rfl] at e2
  have e3:Prim.ev .len [.l ((waysIn s ar ((j:Int)+1)).map eWay)]=some (ii (waysIn s ar ((j:Int)+1)).length):=ev_lenM
  by_cases hp:nodeP s ar ((j:Int)+1) < 0
  ·rw [if_pos hp] at e2
   rw [waysIn_none hp] at e1
   simp (disch:=omega) only [↓pq,ps,pz,↓reduceIte,reduceLE,reduceLT,reduceEq,reduceGT,reduceGE,reduceAdd,reduceSub,reduceMul,reduceNeg,G_FnWays_l0,G_FnWays_l1,G_FnWays_l2,G_FnWays_l3,G_FnWays_l4,G_FnWays_l5,G_FnWays_l6,G_FnWays_l5,hj',e1,e2]
   refine iter_while (fun i=>[bb false,ii (i:Int)]) 0 rfl (rounds_lt (by omega)) (fun i hi=>by omega) fun q''=>?_
   have hz:¬ ((0:Int) < (([]:List Way).length:Int)):=by simp
   simp (disch:=omega) only [↓pq,ps,pz,↓reduceIte,reduceLE,reduceLT,reduceEq,reduceGT,reduceGE,reduceAdd,reduceSub,reduceMul,reduceNeg,G_FnWays_l0,G_FnWays_l1,G_FnWays_l2,G_FnWays_l3,G_FnWays_l4,G_FnWays_l5,G_FnWays_l6,G_FnWays_l4,hz]
  ·rw [if_neg hp] at e2
   simp only [eRcd,List.cons_append,List.nil_append] at e2
   have hp':0≤nodeP s ar ((j:Int)+1):=by omega
   have hne:((waysIn s ar ((j:Int)+1)).length:Int) > 0:=by
    obtain ⟨w,hw,_⟩:=(waysIn_spec hs hv hp').2 _ _ (.nil hv)
    have:=List.length_pos_of_mem hw
    omega
   simp (disch:=omega) only [↓pq,ps,pz,↓reduceIte,reduceLE,reduceLT,reduceEq,reduceGT,reduceGE,reduceAdd,reduceSub,reduceMul,reduceNeg,G_FnWays_l0,G_FnWays_l1,G_FnWays_l2,G_FnWays_l3,G_FnWays_l4,G_FnWays_l5,G_FnWays_l6,G_FnWays_l5,hj',e1,e2,hne]
   exact fw_list hs hl hn hv hp' hn6 q'
 ·intro q'
  have hj':¬ ((n.toNat:Int)+1≤n):=by omega
  simp (disch:=omega) only [↓pq,ps,pz,↓reduceIte,reduceLE,reduceLT,reduceEq,reduceGT,reduceGE,reduceAdd,reduceSub,reduceMul,reduceNeg,G_FnWays_l0,G_FnWays_l1,G_FnWays_l2,G_FnWays_l3,G_FnWays_l4,G_FnWays_l5,G_FnWays_l6,G_FnWays_l5,hj']
theorem true_FnWays (ts:List T) (h:WTs ys_FnWays ts):F_FnWays ts=some [.c (.bool true)]:=by
 obtain ⟨B,rfl,hB⟩:=dec_code ts h
 rw [g_FnWays]
 by_cases hb:(B.length:Int) > 1048576
 ·simp (disch:=omega) only [↓pq,ps,pz,↓reduceIte,reduceLE,reduceLT,reduceEq,reduceGT,reduceGE,reduceAdd,reduceSub,reduceMul,reduceNeg,G_FnWays_l0,G_FnWays_l1,G_FnWays_l2,G_FnWays_l3,G_FnWays_l4,G_FnWays_l5,G_FnWays_l6,G_FnWays,e_big,hb,decide_true]
 obtain ⟨x,L,U,e,hx,hn2,ht,hL,hU⟩:=e_s_DrawRightNet hB (by omega)
 have hlk:=(netOk_links hx).2
 have hn:=netOk_n hx
 have hi:idealB x L U=true:=by unfold idealB;simp [hx,hL,hU]
 have eI:=e_s_Ideal x.n x.links x.things L U (by omega) (by omega)
 have hS:=ideal_sto (L:=L) (U:=U) hx
 have hx':(⟨x.n,x.links,x.things⟩:Net)=x:=rfl
 rw [hx',if_pos hi] at eI
 have hs:=hS.ok (by decide)
 have hsl:=hS.len
 have hsn:=hS.near
 generalize ideal x L U=s at *
 simp (disch:=omega) only [↓pq,ps,pz,↓reduceIte,reduceLE,reduceLT,reduceEq,reduceGT,reduceGE,reduceAdd,reduceSub,reduceMul,reduceNeg,G_FnWays_l0,G_FnWays_l1,G_FnWays_l2,G_FnWays_l3,G_FnWays_l4,G_FnWays_l5,G_FnWays_l6,G_FnWays,e_big,hb,decide_false,e,eI]
 refine iter_while (fun k=>[bb false,ii (k:Int)]) 3 rfl (rounds_lt (by omega)) ?_ ?_
 ·intro k hk q
  have hk':(k:Int)≤2:=by omega
  simp (disch:=omega) only [↓pq,ps,pz,↓reduceIte,reduceLE,reduceLT,reduceEq,reduceGT,reduceGE,reduceAdd,reduceSub,reduceMul,reduceNeg,G_FnWays_l0,G_FnWays_l1,G_FnWays_l2,G_FnWays_l3,G_FnWays_l4,G_FnWays_l5,G_FnWays_l6,G_FnWays_l6,hk']
  exact fw_node hs (by omega) hsn hn (by omega) q
 ·intro q
  simp (disch:=omega) only [↓pq,ps,pz,↓reduceIte,reduceLE,reduceLT,reduceEq,reduceGT,reduceGE,reduceAdd,reduceSub,reduceMul,reduceNeg,G_FnWays_l0,G_FnWays_l1,G_FnWays_l2,G_FnWays_l3,G_FnWays_l4,G_FnWays_l5,G_FnWays_l6,G_FnWays_l6,e_i_Linked _ _ _ _ (show s.length≤1048576 by omega) hsn,linkC_self hs]
  rfl
end Go.Proofs.YtlofiplkmgmnfaaC

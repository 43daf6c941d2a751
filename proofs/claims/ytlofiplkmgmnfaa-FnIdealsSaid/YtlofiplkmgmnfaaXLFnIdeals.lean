/- FnIdeals: what the plain programs say. Conditions: none. -/
import Derived.Test.YtlofiplkmgmnfaaXSDh
namespace Go.Proofs.YtlofiplkmgmnfaaC
open Int (reduceLE reduceLT reduceEq reduceGT reduceGE reduceAdd reduceSub reduceMul reduceNeg)
set_option linter.unusedVariables false
set_option linter.unusedSimpArgs false
def ys_FnIdeals:List Ty:=[.sl yByte]
theorem sameBody_self (r:Rcd):sameBody r r=true:=by
 have h1:nearEq r.near r.near=true:=by unfold nearEq;simp [allB_iff]
 have h2:sameKey r r=true:=sameKey_iff.2 ⟨rfl,rfl,rfl,rfl⟩
 unfold sameBody
 rw [h1,h2];simp
theorem trueTold_self (s:List Rcd):trueTold s s=true:=by
 unfold trueTold
 rw [allB_iff]
 intro i hi
 unfold told1
 rw [show (fun (c:Bool) (x:Rcd)=>c || sameBody x (gt s (i:Int)) && (x.seq == (gt s (i:Int)).seq))=fun c x=>c || (sameBody x (gt s (i:Int)) && (x.seq == (gt s (i:Int)).seq)) from rfl,foldl_or,Bool.false_or,List.any_eq_true]
 exact ⟨gt s (i:Int),gt_mem (by omega) (by omega),by rw [sameBody_self];simp⟩
section
variable {x:Net} {L U:List Bool} (hx:netOk x=true) (hL:L.length=x.links.length) (hU:(U.length:Int)=x.n)
include hx hL hU
theorem true_up {v:Int} (hv:1≤v∧v≤x.n) (hu:gt U (v - 1)=true):trueRoutes x L U v=routesOf (ideal x L U) (areasOf x.links v) (border x.links v) v:=by
 unfold trueRoutes
 rw [if_pos ⟨by unfold idealB;simp [hx,hL,hU],hv,hu⟩]
theorem back_found {v:Int} (hv:1≤v∧v≤x.n) {r:Route} (hr:r∈trueRoutes x L U v) (hk:r.kind=1) :
  (trueRoutes x L U r.to).any (fun y=>!y.thing && (y.to == v && y.cost == r.cost))=true:=by
 have hn:=netOk_n hx
 have hu:gt U (v - 1)=true:=by
  unfold trueRoutes at hr
  split at hr
  ·rename_i h;exact h.2.2
  ·cases hr
 rw [true_up hx hL hU hv hu] at hr
 rcases route_of hr with ⟨h1,h2,h3,w,hw,h4,h5,h6⟩ | ⟨h1,h2,_⟩ | ⟨h1,h2,_⟩
 ·obtain ⟨⟨k1,k2⟩,w',hw',e1,e2⟩:=within_back (L:=L) (U:=U) hx ⟨by omega,by omega⟩ hw (by rw [h4];exact h3)
  rw [h4] at k1 k2 hw'
  rw [true_up hx hL hU k2 k1,List.any_eq_true]
  refine ⟨rWith w',?_,?_⟩
  ·unfold routesOf
   refine List.mem_append.2 (.inl (List.mem_append.2 (.inl (List.mem_map.2 ⟨w',List.mem_filter.2 ⟨hw',?_⟩,rfl⟩))))
   have:w'.to≠r.to:=by rw [e1];exact fun e=>h3 e.symm
   simpa using this
  ·simp [rWith,e1,e2,h5]
 ·omega
 ·omega
end
theorem fi_back {v:Int} {R Bk:List Route} (hl:R.length≤30) (hb:Bk.length≤30) {i:Nat} (hi:(i:Int) < R.length) (hf:Bk.any (fun y=>!y.thing && (y.to == v && y.cost == (gt R (i:Int)).cost))=true) (q:Sem1) :
  iter (G_FnIdeals_l0 (ii v) (.l (R.map eRoute)) (bb false) (ii i) (.l (Bk.map eRoute)) q) rounds [bb false,ii 0]=q [bb false,ii (i+1)]:=by
 refine (iter_foldlx Bk (fun j c=>[bb c,ii j]) (fun c y=>c || (!y.thing && (y.to == v && y.cost == (gt R (i:Int)).cost))) (fun c=>if c=true then q [bb false,ii (i+1)] else some [bb false]) false (fun _ _=>True) rfl (rounds_lt (by omega)) trivial ?_ ?_).trans ?_
 ·intro j c hj _
  refine ⟨trivial,fun q'=>?_⟩
  cases c with
  | true=>simp (disch:=omega) only [↓pq,↓pj,ps,pz,↓reduceIte,reduceLE,reduceLT,reduceEq,reduceGT,reduceGE,reduceAdd,reduceSub,reduceMul,reduceNeg,G_FnIdeals_l0,G_FnIdeals_l1,G_FnIdeals_l2,G_FnIdeals_l3,G_FnIdeals_l4,G_FnIdeals_l5,G_FnIdeals_l0,hj,Bool.true_or]
  | false =>
   cases ht:(gt Bk (j:Int)).thing with
   | true =>
    rw [show (false || (!true && ((gt Bk (j:Int)).to == v && (gt Bk (j:Int)).cost == (gt R (i:Int)).cost)))=false from rfl]
    simp (disch:=omega) only [↓pq,↓pj,ps,pz,↓reduceIte,reduceLE,reduceLT,reduceEq,reduceGT,reduceGE,reduceAdd,reduceSub,reduceMul,reduceNeg,G_FnIdeals_l0,G_FnIdeals_l1,G_FnIdeals_l2,G_FnIdeals_l3,G_FnIdeals_l4,G_FnIdeals_l5,G_FnIdeals_l0,hj,ht,Bool.false_eq_true]
   | false =>
    by_cases h2:(gt Bk (j:Int)).to=v
    ·by_cases h3:(gt Bk (j:Int)).cost=(gt R (i:Int)).cost
     ·rw [show (false || (!false && ((gt Bk (j:Int)).to == v && (gt Bk (j:Int)).cost == (gt R (i:Int)).cost)))=true by simp [h2,h3]]
      simp (disch:=omega) only [↓pq,↓pj,ps,pz,↓reduceIte,reduceLE,reduceLT,reduceEq,reduceGT,reduceGE,reduceAdd,reduceSub,reduceMul,reduceNeg,G_FnIdeals_l0,G_FnIdeals_l1,G_FnIdeals_l2,G_FnIdeals_l3,G_FnIdeals_l4,G_FnIdeals_l5,G_FnIdeals_l0,hj,hi,ht,h2,h3,Bool.false_eq_true]
      try simp
     ·rw [show (false || (!false && ((gt Bk (j:Int)).to == v && (gt Bk (j:Int)).cost == (gt R (i:Int)).cost)))=false by simp [h2,h3]]
      simp (disch:=omega) only [↓pq,↓pj,ps,pz,↓reduceIte,reduceLE,reduceLT,reduceEq,reduceGT,reduceGE,reduceAdd,reduceSub,reduceMul,reduceNeg,G_FnIdeals_l0,G_FnIdeals_l1,G_FnIdeals_l2,G_FnIdeals_l3,G_FnIdeals_l4,G_FnIdeals_l5,G_FnIdeals_l0,hj,hi,ht,h2,h3,Bool.false_eq_true]
      rw [show ((gt Bk (j:Int)).cost == (gt R (i:Int)).cost)=false by simpa using h3]
    ·rw [show (false || (!false && ((gt Bk (j:Int)).to == v && (gt Bk (j:Int)).cost == (gt R (i:Int)).cost)))=false by simp [h2]]
     simp (disch:=omega) only [↓pq,↓pj,ps,pz,↓reduceIte,reduceLE,reduceLT,reduceEq,reduceGT,reduceGE,reduceAdd,reduceSub,reduceMul,reduceNeg,G_FnIdeals_l0,G_FnIdeals_l1,G_FnIdeals_l2,G_FnIdeals_l3,G_FnIdeals_l4,G_FnIdeals_l5,G_FnIdeals_l0,hj,hi,ht,h2,Bool.false_eq_true]
 ·intro c q' _
  cases c with
  | true=>simp (disch:=omega) only [↓pq,↓pj,ps,pz,↓reduceIte,reduceLE,reduceLT,reduceEq,reduceGT,reduceGE,reduceAdd,reduceSub,reduceMul,reduceNeg,G_FnIdeals_l0,G_FnIdeals_l1,G_FnIdeals_l2,G_FnIdeals_l3,G_FnIdeals_l4,G_FnIdeals_l5,G_FnIdeals_l0,Bool.false_eq_true]
  | false=>simp (disch:=omega) only [↓pq,↓pj,ps,pz,↓reduceIte,reduceLE,reduceLT,reduceEq,reduceGT,reduceGE,reduceAdd,reduceSub,reduceMul,reduceNeg,G_FnIdeals_l0,G_FnIdeals_l1,G_FnIdeals_l2,G_FnIdeals_l3,G_FnIdeals_l4,G_FnIdeals_l5,G_FnIdeals_l0,Bool.false_eq_true]
 ·rw [foldl_or,hf];rfl
theorem fi_list {x:Net} {L U:List Bool} (hx:netOk x=true) (hL:L.length=x.links.length) (hU:(U.length:Int)=x.n) {v:Int} (hv:1≤v∧v≤x.n) (q:Sem1) :
  iter (G_FnIdeals_l1 rounds F_i_TrueRoutes (ii x.n) (.l (x.links.map eLink)) (.l (x.things.map eThing)) (.l (L.map eBool)) (.l (U.map eBool)) (ii v) (.l ((trueRoutes x L U v).map eRoute)) q) rounds [bb false,ii 0]=q [bb false,ii (v+1)]:=by
 have hn:=netOk_n hx
 have hal:=netOk_all hx
 have hlen:∀ u,(trueRoutes x L U u).length≤21:=by
  intro u
  unfold trueRoutes
  split
  ·exact routesOf_len _ _ _ _
  ·simp
 have hlv:=hlen v
 refine iter_while (fun i=>[bb false,ii (i:Int)]) (trueRoutes x L U v).length rfl (rounds_lt (by omega)) ?_ ?_
 ·intro i hi q'
  have hm:=gt_mem (l:=trueRoutes x L U v) (n:=(i:Int)) (by omega) hi
  by_cases hk:(gt (trueRoutes x L U v) (i:Int)).kind=1
  ·have hf:=back_found hx hL hU hv hm hk
   have e1:=e_i_TrueRoutes x.n x.links x.things L U (gt (trueRoutes x L U v) (i:Int)).to (by omega) (by omega)
   have hlb:=hlen (gt (trueRoutes x L U v) (i:Int)).to
   simp (disch:=omega) only [↓pq,↓pj,ps,pz,↓reduceIte,reduceLE,reduceLT,reduceEq,reduceGT,reduceGE,reduceAdd,reduceSub,reduceMul,reduceNeg,G_FnIdeals_l0,G_FnIdeals_l1,G_FnIdeals_l2,G_FnIdeals_l3,G_FnIdeals_l4,G_FnIdeals_l5,G_FnIdeals_l1,hi,hk,e1]
   exact fi_back (by omega) (by omega) hi hf q'
  ·simp (disch:=omega) only [↓pq,↓pj,ps,pz,↓reduceIte,reduceLE,reduceLT,reduceEq,reduceGT,reduceGE,reduceAdd,reduceSub,reduceMul,reduceNeg,G_FnIdeals_l0,G_FnIdeals_l1,G_FnIdeals_l2,G_FnIdeals_l3,G_FnIdeals_l4,G_FnIdeals_l5,G_FnIdeals_l1,hi,hk]
 ·intro q'
  have hz:¬ (((trueRoutes x L U v).length:Int) < (trueRoutes x L U v).length):=by omega
  simp (disch:=omega) only [↓pq,↓pj,ps,pz,↓reduceIte,reduceLE,reduceLT,reduceEq,reduceGT,reduceGE,reduceAdd,reduceSub,reduceMul,reduceNeg,G_FnIdeals_l0,G_FnIdeals_l1,G_FnIdeals_l2,G_FnIdeals_l3,G_FnIdeals_l4,G_FnIdeals_l5,G_FnIdeals_l1,hz]
theorem true_FnIdeals (ts:List T) (h:WTs ys_FnIdeals ts):F_FnIdeals ts=some [.c (.bool true)]:=by
 obtain ⟨B,rfl,hB⟩:=dec_code ts h
 rw [g_FnIdeals]
 by_cases hb:(B.length:Int) > 1048576
 ·simp (disch:=omega) only [↓pq,↓pj,ps,pz,↓reduceIte,reduceLE,reduceLT,reduceEq,reduceGT,reduceGE,reduceAdd,reduceSub,reduceMul,reduceNeg,G_FnIdeals_l0,G_FnIdeals_l1,G_FnIdeals_l2,G_FnIdeals_l3,G_FnIdeals_l4,G_FnIdeals_l5,G_FnIdeals,e_big,hb,decide_true]
 obtain ⟨x,L,U,e,hx,hn2,ht,hL,hU⟩:=e_s_DrawRightNet hB (by omega)
 have hlk:=(netOk_links hx).2
 have hn:=netOk_n hx
 have hi:idealB x L U=true:=by unfold idealB;simp [hx,hL,hU]
 have eI:=e_s_Ideal x.n x.links x.things L U (by omega) (by omega)
 have eJ:=e_i_Ideal x.n x.links x.things L U (by omega) (by omega)
 have hS:=ideal_sto (L:=L) (U:=U) hx
 have hR:=ideal_rec (L:=L) (U:=U) hx
 have eT:=fun v=>e_i_TrueRoutes x.n x.links x.things L U v (by omega) (by omega)
 have hx':(⟨x.n,x.links,x.things⟩:Net)=x:=rfl
 rw [hx',if_pos hi] at eI eJ
 simp only [hx'] at eT
 have hs:=hS.ok (by decide)
 have hsl:=hS.len
 have hsn:=hS.near
 have hsame:=refl_sameStore (ideal x L U) (by omega) hsn
 simp (disch:=omega) only [↓pq,↓pj,ps,pz,↓reduceIte,reduceLE,reduceLT,reduceEq,reduceGT,reduceGE,reduceAdd,reduceSub,reduceMul,reduceNeg,G_FnIdeals_l0,G_FnIdeals_l1,G_FnIdeals_l2,G_FnIdeals_l3,G_FnIdeals_l4,G_FnIdeals_l5,G_FnIdeals,e_big,hb,decide_false,e,eI,eJ,hsame]
 refine iter_while (fun i=>[bb false,ii (i:Int)]) (ideal x L U).length rfl (rounds_lt (by omega)) ?_ ?_
 ·intro i hi q
  obtain ⟨r1,r2,r3,_⟩:=hR _ (gt_mem (n:=(i:Int)) (by omega) hi)
  have k1:(gt (ideal x L U) (i:Int)).owner - 1 < U.length:=by omega
  simp (disch:=omega) only [↓pq,↓pj,ps,pz,↓reduceIte,reduceLE,reduceLT,reduceEq,reduceGT,reduceGE,reduceAdd,reduceSub,reduceMul,reduceNeg,G_FnIdeals_l0,G_FnIdeals_l1,G_FnIdeals_l2,G_FnIdeals_l3,G_FnIdeals_l4,G_FnIdeals_l5,G_FnIdeals_l5,hi,r1,r2,k1]
 ·intro q
  have hz:¬ (((ideal x L U).length:Int) < (ideal x L U).length):=by omega
  simp (disch:=omega) only [↓pq,↓pj,ps,pz,↓reduceIte,reduceLE,reduceLT,reduceEq,reduceGT,reduceGE,reduceAdd,reduceSub,reduceMul,reduceNeg,G_FnIdeals_l0,G_FnIdeals_l1,G_FnIdeals_l2,G_FnIdeals_l3,G_FnIdeals_l4,G_FnIdeals_l5,G_FnIdeals_l5,hz]
  refine iter_while (fun j=>[bb false,ii ((j:Int)+1)]) x.n.toNat rfl (rounds_lt (by omega)) ?_ ?_
  ·intro j hj q
   have hj':(j:Int)+1≤x.n:=by omega
   have k1:(j:Int)+1 - 1 < U.length:=by omega
   have tail:=fi_list hx hL hU (v:=(j:Int)+1) (by omega) q
   cases hu:gt U ((j:Int)+1 - 1) with
   | true =>
    simp (disch:=omega) only [↓pq,↓pj,ps,pz,↓reduceIte,reduceLE,reduceLT,reduceEq,reduceGT,reduceGE,reduceAdd,reduceSub,reduceMul,reduceNeg,G_FnIdeals_l0,G_FnIdeals_l1,G_FnIdeals_l2,G_FnIdeals_l3,G_FnIdeals_l4,G_FnIdeals_l5,G_FnIdeals_l4,hj',eT,k1,hu]
    exact tail
   | false =>
    have hnil:trueRoutes x L U ((j:Int)+1)=[]:=by
     unfold trueRoutes
     rw [if_neg (by rintro ⟨_,_,h⟩;rw [hu] at h;cases h)]
    rw [hnil] at tail
    have eT':=eT ((j:Int)+1)
    rw [hnil] at eT'
    have h0:¬ ((([]:List Route).length:Int) > 0):=by simp
    simp (disch:=omega) only [↓pq,↓pj,ps,pz,↓reduceIte,reduceLE,reduceLT,reduceEq,reduceGT,reduceGE,reduceAdd,reduceSub,reduceMul,reduceNeg,G_FnIdeals_l0,G_FnIdeals_l1,G_FnIdeals_l2,G_FnIdeals_l3,G_FnIdeals_l4,G_FnIdeals_l5,G_FnIdeals_l4,hj',eT',k1,hu,Bool.false_eq_true,h0]
    exact tail
  ·intro q
   have hj':¬ ((x.n.toNat:Int)+1≤x.n):=by omega
   simp (disch:=omega) only [↓pq,↓pj,ps,pz,↓reduceIte,reduceLE,reduceLT,reduceEq,reduceGT,reduceGE,reduceAdd,reduceSub,reduceMul,reduceNeg,G_FnIdeals_l0,G_FnIdeals_l1,G_FnIdeals_l2,G_FnIdeals_l3,G_FnIdeals_l4,G_FnIdeals_l5,G_FnIdeals_l4,hj',e_i_TrueTold _ _ (show (ideal x L U).length≤1048576 by omega) (show (ideal x L U).length≤1048576 by omega) hsn,trueTold_self,e_s_StoreOk _ (show (ideal x L U).length≤1048576 by omega) hsn,hs]
end Go.Proofs.YtlofiplkmgmnfaaC

/- FnBack: what the plain programs say. Conditions: none. -/
import Derived.Test.YtlofiplkmgmnfaaXSDf
namespace Go.Proofs.YtlofiplkmgmnfaaC
open Int (reduceLE reduceLT reduceEq reduceGT reduceGE reduceAdd reduceSub reduceMul reduceNeg)
set_option linter.unusedVariables false
set_option linter.unusedSimpArgs false
def ys_FnBack:List Ty:=[.sl yByte]
theorem e_s_l06Way {B:List Int} (hB:∀ x∈B,OkByte x) (hl:B.length≤1048576) {i:Int} (h:Int) (hi:0≤i) (hi':i≤B.length) :
  ∃ (w:Way) (i' h':Int),F_s_l06Way [.l (B.map eByte),ii i,ii h]=some [ii w.to,ii w.cost,.l (w.hops.map eInt),.l (B.map eByte),ii i',ii h']∧(w.hops.length≤6)∧0≤i'∧i'≤B.length:=by
 rw [g_s_l06Way]
 obtain ⟨a,i,h,e1,r1,hi,hi'⟩:=e_s_l01Below hB hl h hi hi' 3 (by omega) (by omega)
 obtain ⟨b,i,h,e2,r2,hi,hi'⟩:=e_s_l01Below hB hl h hi hi' 4 (by omega) (by omega)
 obtain ⟨c,i,h,e3,r3,hi,hi'⟩:=e_s_l01Below hB hl h hi hi' 5 (by omega) (by omega)
 obtain ⟨d,i,h,e4,r4,hi,hi'⟩:=e_s_l01Below hB hl h hi hi' 5 (by omega) (by omega)
 have ea:=e_s_l06Add [1+c] [1+d] (by simp) (by simp)
 refine ⟨⟨1+a,b,uni [1+c] [1+d]⟩,i,h,?_,hops_len (uni_ok _ _),hi,hi'⟩
 simp (disch:=omega) only [↓pq,ps,pz,↓reduceIte,reduceLE,reduceLT,reduceEq,reduceGT,reduceGE,reduceAdd,reduceSub,reduceMul,reduceNeg,G_s_l06Way,e1,e2,e3,e4,ea]
def TwoP (o:Option (List T)):Prop:=∃ a b:Way,o=some [ii a.to,ii a.cost,.l (a.hops.map eInt),ii b.to,ii b.cost,.l (b.hops.map eInt)]∧a.hops.length≤6∧b.hops.length≤7
theorem lit3_Int (a b c:Int):Prim.ev (.lit 1 [true,true,true]) [ii a,ii b,ii c]=some (.l ([a,b,c].map eInt)):=by simp [Prim.ev,masked,chunks,scal,eInt]
theorem e_s_DrawTogether {B:List Int} (hB:∀ x∈B,OkByte x) (hl:B.length≤1048576):TwoP (F_s_DrawTogether [.l (B.map eByte)]):=by
 rw [g_s_DrawTogether]
 have hn:Prim.ev .len [.l (B.map eByte)]=some (ii B.length):=ev_lenM
 simp (disch:=omega) only [↓pq,ps,pz,↓reduceIte,reduceLE,reduceLT,reduceEq,reduceGT,reduceGE,reduceAdd,reduceSub,reduceMul,reduceNeg,G_s_DrawTogether_l0,G_s_DrawTogether,hn]
 refine new_post hB hl (Post:=TwoP) ?_ ?_ _
 ·intro q h k c1 c2
  obtain ⟨m,a,c,d,e1,e2,e3,e4,e5,e6,e7⟩:=step131 hB hl h c1
  exact ⟨d,by simp (disch:=omega) only [↓pq,ps,pz,↓reduceIte,reduceLE,reduceLT,reduceEq,reduceGT,reduceGE,reduceAdd,reduceSub,reduceMul,reduceNeg,G_s_DrawTogether_l0,hn,c1,c2,e1,e2,e3,e4,e5,e6,e7]⟩
 ·intro q h k hk
  obtain ⟨a,i,h,e1,r1,hi,hi'⟩:=e_s_l06Way hB hl h (i:=0) (by omega) (by omega)
  obtain ⟨b,i,h,e2,r2,hi,hi'⟩:=e_s_l06Way hB hl h hi hi'
  obtain ⟨f,i,h,e3,hi,hi'⟩:=e_s_l01Once hB hl h hi hi' 10 (by omega) (by omega)
  obtain ⟨z,i,h,e4,hz,hi,hi'⟩:=e_s_l01PickInt hB hl h hi hi' [0,7,-1] (by simp) (by simp)
  have c2:¬ (k:Int) < B.length∨((k:Int) < B.length∧¬ (k:Int) < 4000):=by omega
  rcases c2 with c1 | ⟨c1,c2⟩
  ·cases f with
   | true =>
    simp (disch:=omega) only [↓pq,ps,pz,↓reduceIte,reduceLE,reduceLT,reduceEq,reduceGT,reduceGE,reduceAdd,reduceSub,reduceMul,reduceNeg,G_s_DrawTogether_l0,hn,c1,e1,e2,e3,lit3_Int,e4]
    exact ⟨a,⟨a.to,b.cost,b.hops++[z]⟩,rfl,r1,by simp;omega⟩
   | false =>
    simp (disch:=omega) only [↓pq,ps,pz,↓reduceIte,reduceLE,reduceLT,reduceEq,reduceGT,reduceGE,reduceAdd,reduceSub,reduceMul,reduceNeg,G_s_DrawTogether_l0,hn,c1,e1,e2,e3,Bool.false_eq_true]
    exact ⟨a,⟨a.to,b.cost,b.hops⟩,rfl,r1,by show b.hops.length≤7;omega⟩
  ·cases f with
   | true =>
    simp (disch:=omega) only [↓pq,ps,pz,↓reduceIte,reduceLE,reduceLT,reduceEq,reduceGT,reduceGE,reduceAdd,reduceSub,reduceMul,reduceNeg,G_s_DrawTogether_l0,hn,c1,c2,e1,e2,e3,lit3_Int,e4]
    exact ⟨a,⟨a.to,b.cost,b.hops++[z]⟩,rfl,r1,by simp;omega⟩
   | false =>
    simp (disch:=omega) only [↓pq,ps,pz,↓reduceIte,reduceLE,reduceLT,reduceEq,reduceGT,reduceGE,reduceAdd,reduceSub,reduceMul,reduceNeg,G_s_DrawTogether_l0,hn,c1,c2,e1,e2,e3,Bool.false_eq_true]
    exact ⟨a,⟨a.to,b.cost,b.hops⟩,rfl,r1,by show b.hops.length≤7;omega⟩
theorem e_i_Better (a b:Int) (t2 t5 t0 t3:T):F_i_Better [t0,ii a,t2,t3,ii b,t5]=some [bb (decide (a < b))]:=by
 rw [g_i_Better];simp (disch:=omega) only [↓pq,ps,pz,↓reduceIte,reduceLE,reduceLT,reduceEq,reduceGT,reduceGE,reduceAdd,reduceSub,reduceMul,reduceNeg,G_i_Better]
theorem insI_fold_mem (l:List Int):∀ c:List Int,c.Pairwise (· < ·)→(l.foldl insI c).Pairwise (· < ·)∧∀ x,x∈l.foldl insI c↔x∈c∨x∈l:=by
 induction l with
 | nil=>exact fun c hc=>⟨hc,by simp⟩
 | cons n l ih =>
  intro c hc
  obtain ⟨h1,h2⟩:=ih _ (insI_asc hc n)
  refine ⟨h1,fun x=>?_⟩
  rw [List.foldl_cons,h2,mem_insI,List.mem_cons]
  constructor
  ·rintro ((h | h) | h)
   ·exact .inr (.inl h)
   ·exact .inl h
   ·exact .inr (.inr h)
  ·rintro (h | h | h)
   ·exact .inl (.inr h)
   ·exact .inl (.inl h)
   ·exact .inr h
theorem insI_fold_comm (a b:List Int):b.foldl insI (a.foldl insI [])=a.foldl insI (b.foldl insI []):=by
 obtain ⟨q1,q2⟩:=insI_fold_mem a [] .nil
 obtain ⟨q3,q4⟩:=insI_fold_mem b _ q1
 obtain ⟨q5,q6⟩:=insI_fold_mem b [] .nil
 obtain ⟨q7,q8⟩:=insI_fold_mem a _ q5
 refine asc_ext q3 q7 fun x=>?_
 rw [q4,q2,q8,q6]
 simp [or_comm]
theorem fb_list {s:List Rcd} (hs:storeOk s=true) (hl:s.length≤1048576) (hn:NearL s) (sym:∀ a b,linkC s 0 a b=linkC s 0 b a) {v:Int} (hv:In6 v) (hp:0≤nodeP s 0 v) (q:Sem1) :
  iter (G_FnBack_l0 F_i_WayTo F_i_WaysIn (.l (s.map eRcd)) (ii v) (.l ((waysIn s 0 v).map eWay)) q) rounds [bb false,ii 0]=q [bb false,ii (v+1)]:=by
 have hil:=waysIn_len (s:=s) (a:=0) (fr:=v)
 have hv1:=hv.1
 have hv2:=hv.2
 obtain ⟨a1,a2⟩:=waysIn_spec hs hv hp
 refine iter_while (fun i=>[bb false,ii (i:Int)]) (waysIn s 0 v).length rfl (rounds_lt (by omega)) ?_ ?_
 ·intro i hi q'
  have hw:=gt_mem (l:=waysIn s 0 v) (n:=(i:Int)) (by omega) hi
  obtain ⟨b1,b2,b3,b4⟩:=a1 _ hw
  have hpu:0≤nodeP s 0 (gt (waysIn s 0 v) (i:Int)).to:=by
   rcases b2.last with ⟨e,_⟩ | ⟨p,m,_,hc,_⟩
   ·rw [← e];exact hp
   ·exact (link_node hc).2
  obtain ⟨c1,c2⟩:=waysIn_spec hs b1 hpu
  obtain ⟨w,hw',e⟩:=c2 _ _ (pa_sym sym b2)
  have hq:=wayP_in hw' e
  obtain ⟨d1,d2⟩:=wayP_some hq
  obtain ⟨f1,f2,f3,f4⟩:=c1 _ d1
  rw [d2] at f2 f3
  have g1:=f3 _ (pa_sym sym b2)
  have g2:=b3 _ (pa_sym sym f2)
  have e1:=e_i_WaysIn s 0 (gt (waysIn s 0 v) (i:Int)).to hl hn
  have e3:=e_i_WayTo (waysIn s 0 (gt (waysIn s 0 v) (i:Int)).to) v (by have:=waysIn_len (s:=s) (a:=0) (fr:=(gt (waysIn s 0 v) (i:Int)).to);omega) waysIn_hops
  rw [if_neg hq] at e3
  simp only [eWay,List.cons_append,List.nil_append] at e3
  generalize gt (waysIn s 0 (gt (waysIn s 0 v) (i:Int)).to) (wayP (waysIn s 0 (gt (waysIn s 0 v) (i:Int)).to) v)=f at *
  have g3:f.cost=(gt (waysIn s 0 v) (i:Int)).cost:=by omega
  simp (disch:=omega) only [↓pq,ps,pz,↓reduceIte,reduceLE,reduceLT,reduceEq,reduceGT,reduceGE,reduceAdd,reduceSub,reduceMul,reduceNeg,G_FnBack_l0,G_FnBack_l1,G_FnBack_l0,hi,e1,e3,g3]
 ·intro q'
  have hz:¬ (((waysIn s 0 v).length:Int) < (waysIn s 0 v).length):=by omega
  simp (disch:=omega) only [↓pq,ps,pz,↓reduceIte,reduceLE,reduceLT,reduceEq,reduceGT,reduceGE,reduceAdd,reduceSub,reduceMul,reduceNeg,G_FnBack_l0,G_FnBack_l1,G_FnBack_l0,hz]
theorem fb_node {B:List Int} (hB:∀ x∈B,OkByte x) (hBl:B.length≤1048576) {s:List Rcd} (hs:storeOk s=true) (hl:s.length≤1048576) (hn:NearL s) (sym:∀ a b,linkC s 0 a b=linkC s 0 b a) {n:Int} (hn6:1≤n∧n≤6) :
  iter (G_FnBack_l1 rounds F_i_Better F_i_Together F_i_WayTo F_i_WaysIn F_s_DrawTogether F_sameInts (.l (B.map eByte)) (ii n) (.l (s.map eRcd))) rounds [bb false,ii 1]=some [bb true]:=by
 refine iter_while (fun j=>[bb false,ii ((j:Int)+1)]) n.toNat rfl (rounds_lt (by omega)) ?_ ?_
 ·intro j hj q'
  have hj':(j:Int)+1≤n:=by omega
  have hv:In6 ((j:Int)+1):=⟨by omega,by omega⟩
  have e1:=e_i_WaysIn s 0 (j+1) hl hn
  by_cases hp:nodeP s 0 ((j:Int)+1) < 0
  ·rw [waysIn_none hp] at e1
   simp (disch:=omega) only [↓pq,ps,pz,↓reduceIte,reduceLE,reduceLT,reduceEq,reduceGT,reduceGE,reduceAdd,reduceSub,reduceMul,reduceNeg,G_FnBack_l0,G_FnBack_l1,G_FnBack_l1,hj',e1]
   refine iter_while (fun i=>[bb false,ii (i:Int)]) 0 rfl (rounds_lt (by omega)) (fun i hi=>by omega) fun q''=>?_
   have hz:¬ ((0:Int) < (([]:List Way).length:Int)):=by simp
   simp (disch:=omega) only [↓pq,ps,pz,↓reduceIte,reduceLE,reduceLT,reduceEq,reduceGT,reduceGE,reduceAdd,reduceSub,reduceMul,reduceNeg,G_FnBack_l0,G_FnBack_l1,G_FnBack_l0,hz]
  ·simp (disch:=omega) only [↓pq,ps,pz,↓reduceIte,reduceLE,reduceLT,reduceEq,reduceGT,reduceGE,reduceAdd,reduceSub,reduceMul,reduceNeg,G_FnBack_l0,G_FnBack_l1,G_FnBack_l1,hj',e1]
   exact fb_list hs hl hn sym hv (by omega) q'
 ·intro q'
  have hj':¬ ((n.toNat:Int)+1≤n):=by omega
  obtain ⟨a,b,e,ha,hb⟩:=e_s_DrawTogether hB hBl
  have t1:=together_F_i_Together a.to a.cost a.hops b.to b.cost b.hops (by omega) (by omega)
  have t2:=together_F_i_Together b.to b.cost b.hops a.to a.cost a.hops (by omega) (by omega)
  have b1:=fun t0 t2 t3 t5=>e_i_Better a.cost b.cost t2 t5 t0 t3
  have b2:=fun t0 t2 t3 t5=>e_i_Better b.cost a.cost t2 t5 t0 t3
  unfold togG eWay at t1 t2
  simp only at t1 t2
  rcases Int.lt_trichotomy a.cost b.cost with hc | hc | hc
  ·rw [if_pos hc] at t1
   have hc':¬ b.cost < a.cost:=by omega
   simp (disch:=omega) only [↓pq,ps,pz,↓reduceIte,reduceLE,reduceLT,reduceEq,reduceGT,reduceGE,reduceAdd,reduceSub,reduceMul,reduceNeg,G_FnBack_l0,G_FnBack_l1,G_FnBack_l1,hj',e,t1,b1,b2,hc,hc',decide_true,decide_false,Bool.false_eq_true,refl_sameInts _ (show a.hops.length≤1048576 by omega)]
  ·have h1:¬ b.cost > a.cost:=by omega
   have h2:¬ a.cost > b.cost:=by omega
   have h3:¬ a.cost < b.cost:=by omega
   rw [if_neg h1,if_neg h2] at t1
   rw [if_neg h2,if_neg h1,insI_fold_comm] at t2
   have hll:∀ l c:List Int,(l.foldl insI c).length≤c.length+l.length:=by
    intro l
    induction l with
    | nil=>intro c;simp
    | cons n l ih=>intro c;have:=ih (insI c n);have:=insI_len c n;simp only [List.foldl_cons,List.length_cons];omega
   have hlen:(b.hops.foldl insI (a.hops.foldl insI [])).length≤1048576:=by
    have h5:=hll b.hops (a.hops.foldl insI [])
    have h6:=hll a.hops []
    simp only [List.length_nil] at h6
    omega
   generalize b.hops.foldl insI (a.hops.foldl insI [])=u at *
   simp (disch:=omega) only [↓pq,ps,pz,↓reduceIte,reduceLE,reduceLT,reduceEq,reduceGT,reduceGE,reduceAdd,reduceSub,reduceMul,reduceNeg,G_FnBack_l0,G_FnBack_l1,G_FnBack_l1,hj',e,t1,t2,b1,b2,h3,eq_true hc,decide_true,decide_false,Bool.false_eq_true,refl_sameInts _ hlen]
  ·have h1:¬ b.cost > a.cost:=by omega
   have h3:¬ a.cost < b.cost:=by omega
   have h4:¬ b.cost=a.cost:=by omega
   rw [if_neg h1,if_pos hc] at t1
   rw [if_pos hc] at t2
   simp (disch:=omega) only [↓pq,ps,pz,↓reduceIte,reduceLE,reduceLT,reduceEq,reduceGT,reduceGE,reduceAdd,reduceSub,reduceMul,reduceNeg,G_FnBack_l0,G_FnBack_l1,G_FnBack_l1,hj',e,t1,t2,b1,b2,h3,h4,decide_true,decide_false,Bool.false_eq_true]
theorem true_FnBack (ts:List T) (h:WTs ys_FnBack ts):F_FnBack ts=some [.c (.bool true)]:=by
 obtain ⟨B,rfl,hB⟩:=dec_code ts h
 rw [g_FnBack]
 by_cases hb:(B.length:Int) > 1048576
 ·simp (disch:=omega) only [↓pq,ps,pz,↓reduceIte,reduceLE,reduceLT,reduceEq,reduceGT,reduceGE,reduceAdd,reduceSub,reduceMul,reduceNeg,G_FnBack_l0,G_FnBack_l1,G_FnBack,e_big,hb,decide_true]
 obtain ⟨x,L,U,e,hx,hn2,ht,hL,hU⟩:=e_s_DrawRightNet hB (by omega)
 have hlk:=(netOk_links hx).2
 have hn:=netOk_n hx
 have hi:idealB x L U=true:=by unfold idealB;simp [hx,hL,hU]
 have eI:=e_s_Ideal x.n x.links x.things L U (by omega) (by omega)
 have hS:=ideal_sto (L:=L) (U:=U) hx
 have sym:=ideal_sym (L:=L) (U:=U) hx 0
 have hx':(⟨x.n,x.links,x.things⟩:Net)=x:=rfl
 rw [hx',if_pos hi] at eI
 have hs:=hS.ok (by decide)
 have hsl:=hS.len
 have hsn:=hS.near
 generalize ideal x L U=s at *
 simp (disch:=omega) only [↓pq,ps,pz,↓reduceIte,reduceLE,reduceLT,reduceEq,reduceGT,reduceGE,reduceAdd,reduceSub,reduceMul,reduceNeg,G_FnBack_l0,G_FnBack_l1,G_FnBack,e_big,hb,decide_false,e,eI]
 exact fb_node hB (by omega) hs (by omega) hsn sym hn
end Go.Proofs.YtlofiplkmgmnfaaC

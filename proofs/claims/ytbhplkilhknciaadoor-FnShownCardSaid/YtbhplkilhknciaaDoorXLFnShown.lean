/- FnShown: what the plain programs say. Conditions: none. -/
import Derived.Test.YtbhplkilhknciaaDoorXSRb
namespace Go.Proofs.YtbhplkilhknciaaDoorC
open Int (reduceLE reduceLT reduceEq reduceGT reduceGE reduceAdd reduceSub reduceMul reduceNeg)
set_option linter.unusedVariables false
set_option linter.unusedSimpArgs false
def ys_FnShown:List Ty:=[.sl yByte]
theorem shown_loop {th:Bool} {to kd cost far:Int} {l:List Int} (i1:I64 to) (i2:I64 cost) (i3:I64 far) (hl:∀ x∈l,I64 x) (hn:l.length≤6) :
  iter (G_FnShown_l0 F_begins F_s_Decimal (bb th) (ii to) (ii cost) (.l (l.map eInt)) (st (showT th to kd cost far l))) rounds [st [32,98,121],ii 0]=some [bb true]:=by
 have hlen:∀ i,(hopT (l.take i)).length≤126:=fun i=>by
  have h1:=hopT_len (l:=l.take i) fun x hx=>hl x (List.mem_of_mem_take hx)
  have h2:(l.take i).length≤l.length:=by rw [List.length_take];omega
  omega
 have t1:=itoa_len i1
 have t2:=itoa_len i2
 have d1:=e_s_Decimal i1
 have d2:=e_s_Decimal i2
 obtain ⟨w,hw,hw2⟩:∃ w:List UInt8,w=(if th=true then ([116,104,105,110,103,32]:List UInt8) else [110,111,100,101,32])∧w.length≤6:=⟨_,rfl,by split <;> simp⟩
 obtain ⟨m0,hm0⟩:∃ m0:List UInt8,m0=(if kd=4 then ([32,102,97,114,32]:List UInt8)++Go.Lib.itoa far else []):=⟨_,rfl⟩
 have hS1:showT th to kd cost far l=(w++Go.Lib.itoa to++[32,99,111,115,116,32]++Go.Lib.itoa cost)++(m0++([32,98,121]++hopT l)):=by
  unfold showT;rw [← hw,← hm0];simp only [List.append_assoc]
 have hS2:showT th to kd cost far l=(w++Go.Lib.itoa to++[32,99,111,115,116,32]++Go.Lib.itoa cost++m0)++([32,98,121]++hopT l):=by
  rw [hS1];simp only [List.append_assoc]
 have hb:F_begins [st (w++Go.Lib.itoa to++[32,99,111,115,116,32]++Go.Lib.itoa cost),st (showT th to kd cost far l)]=some [bb true]:=by rw [hS1];exact e_begins
 have hls:=ev_lensst (showT th to kd cost far l)
 have hlw:=ev_lensst ([32,98,121]++hopT l)
 have hge:(([32,98,121]++hopT l:List UInt8).length:Int)≤((showT th to kd cost far l).length:Int):=by
  rw [hS2];simp only [List.length_append];omega
 have hsub:Prim.ev (.subs true false) [st (showT th to kd cost far l),ii ((showT th to kd cost far l).length - ([32,98,121]++hopT l:List UInt8).length)]=some (st ([32,98,121]++hopT l)):=by
  have:=ev_subs_from (a:=w++Go.Lib.itoa to++[32,99,111,115,116,32]++Go.Lib.itoa cost++m0) (b:=[32,98,121]++hopT l) (n:=(showT th to kd cost far l).length - ([32,98,121]++hopT l:List UInt8).length)
   (by rw [hS2];simp only [List.length_append];omega)
  rw [← hS2] at this
  exact this
 have heq:=ev_eqlst ([32,98,121]++hopT l)
 have hsl:(showT th to kd cost far l).length≤84+21 * l.length:=show_len i1 i2 i3 hl
 generalize hSd:showT th to kd cost far l=S at *
 have fin:∀ K:Sem1,G_FnShown_l0 F_begins F_s_Decimal (bb th) (ii to) (ii cost) (.l (l.map eInt)) (st S) K [st ([32,98,121]++hopT l),ii l.length]=some [bb true]:=by
  intro K
  unfold G_FnShown_l0
  have h1:¬ ((l.length:Int) < l.length):=by omega
  have a1:=ev_addst (a:=w) (b:=Go.Lib.itoa to) (by omega)
  have a2:=ev_addst (a:=w++Go.Lib.itoa to) (b:=[32,99,111,115,116,32]) (by simp only [List.length_append,List.length_cons,List.length_nil];omega)
  have a3:=ev_addst (a:=w++Go.Lib.itoa to++[32,99,111,115,116,32]) (b:=Go.Lib.itoa cost) (by simp only [List.length_append,List.length_cons,List.length_nil];omega)
  cases th with
  | true =>
   rw [if_pos rfl] at hw
   rw [hw] at a1 a2 a3 hb
   simp (disch:=omega) only [↓pq,↓pj,ps,pz,↓reduceIte,reduceLE,reduceLT,reduceEq,reduceGT,reduceGE,reduceAdd,reduceSub,reduceMul,reduceNeg,G_FnShown_l0,h1,c_thing,c_node,c_cost,d1,d2,a1,a2,a3,hb,hls,hlw,hge,hsub,heq]
  | false =>
   rw [if_neg (by simp)] at hw
   rw [hw] at a1 a2 a3 hb
   simp (disch:=omega) only [↓pq,↓pj,ps,pz,↓reduceIte,reduceLE,reduceLT,reduceEq,reduceGT,reduceGE,reduceAdd,reduceSub,reduceMul,reduceNeg,G_FnShown_l0,h1,c_thing,c_node,c_cost,d1,d2,a1,a2,a3,hb,hls,hlw,hge,hsub,heq,Bool.false_eq_true]
 have key:∀ (m i R:Nat),i+m=l.length→m < R→iter (G_FnShown_l0 F_begins F_s_Decimal (bb th) (ii to) (ii cost) (.l (l.map eInt)) (st S)) R [st ([32,98,121]++hopT (l.take i)),ii i]=some [bb true]:=by
  intro m
  induction m with
  | zero =>
   intro i R hi hR
   obtain ⟨R,rfl⟩:∃ R',R=R'+1:=⟨R - 1,by omega⟩
   obtain rfl:i=l.length:=by omega
   rw [List.take_of_length_le (Nat.le_refl _)]
   exact fin _
  | succ m ih =>
   intro i R hi hR
   obtain ⟨R,rfl⟩:∃ R',R=R'+1:=⟨R - 1,by omega⟩
   have h2:=ih (i+1) R (by omega) (by omega)
   rw [show ∀ x,iter (G_FnShown_l0 F_begins F_s_Decimal (bb th) (ii to) (ii cost) (.l (l.map eInt)) (st S)) (R+1) x=G_FnShown_l0 F_begins F_s_Decimal (bb th) (ii to) (ii cost) (.l (l.map eInt)) (st S) (iter (G_FnShown_l0 F_begins F_s_Decimal (bb th) (ii to) (ii cost) (.l (l.map eInt)) (st S)) R) x from fun _=>rfl]
   generalize iter (G_FnShown_l0 F_begins F_s_Decimal (bb th) (ii to) (ii cost) (.l (l.map eInt)) (st S)) R=K at h2 ⊢
   unfold G_FnShown_l0
   have h1:(i:Int) < l.length:=by omega
   have hx:I64 (gt l i):=by rw [gt_elem (by omega)];exact hl _ (List.getElem_mem _)
   have e2:=e_s_Decimal hx
   have e32:T.c (.string (ByteArray.mk #[32]))=st [32]:=rfl
   have a1:=ev_addst (a:=[32,98,121]++hopT (l.take i)) (b:=[32]) (by have:=hlen i;simp only [List.length_append,List.length_cons,List.length_nil];omega)
   have a2:=ev_addst (a:=[32,98,121]++hopT (l.take i)++[32]) (b:=Go.Lib.itoa (gt l i)) (by have:=hlen i;have:=itoa_len hx;simp only [List.length_append,List.length_cons,List.length_nil];omega)
   have e3:[32,98,121]++hopT (l.take i)++[32]++Go.Lib.itoa (gt l i)=[32,98,121]++hopT (l.take (i+1)):=by
    rw [← hopT_take l i (by omega),gt_elem (by omega)]
    simp
   rw [e3] at a2
   simp (disch:=omega) only [↓pq,↓pj,ps,pz,↓reduceIte,reduceLE,reduceLT,reduceEq,reduceGT,reduceGE,reduceAdd,reduceSub,reduceMul,reduceNeg,G_FnShown_l0,h1,e32,a1,a2,e2]
   exact h2
 have:=key l.length 0 rounds (by omega) (by unfold rounds;omega)
 simpa [hopT] using this
theorem true_FnShown (ts:List T) (h0:WTs ys_FnShown ts):F_FnShown ts=some [.c (.bool true)]:=by
 obtain ⟨B,rfl,hB⟩:=dec_code ts h0
 rw [g_FnShown]
 unfold G_FnShown
 rw [e_big,cl1_s,ifT_p]
 by_cases hb:(B.length:Int) > 1048576
 ·rw [if_pos (by simpa using hb),Yz_s];rfl
 ·rw [if_neg (by simpa using hb)]
  obtain ⟨r,e1,hr,hh⟩:=e_s_DrawShowRoute hB (by omega)
  have e2:=e_i_ShowRoute (th:=r.thing) (kd:=r.kind) hr.1 hr.2.2.1 hr.2.2.2.1 hr.2.2.2.2.2 (by omega)
  have e0:T.c (.string (ByteArray.mk #[32,98,121]))=st [32,98,121]:=rfl
  rw [e1,cl6_s,e2,cl1_s,e0]
  exact shown_loop hr.1 hr.2.2.1 hr.2.2.2.1 hr.2.2.2.2.2 hh
end Go.Proofs.YtbhplkilhknciaaDoorC

/- FnExactBeyond: what the plain programs say. Conditions: none. -/
import Derived.Test.YtiebbbmibbkpcaaXMB
import Derived.Test.YtiebbbmibbkpcaaKe
import Derived.Test.YtiebbbmibbkpcaaXST
namespace Go.Proofs.YtiebbbmibbkpcaaC
set_option linter.unusedVariables false
set_option linter.unusedSimpArgs false
def ys_FnExactBeyond:List Ty:=[.sl yRcd,.sl yInt,.i .i64,.i .i64]
theorem mk_bnd (es:List Ty) (hm:mkOk es=true) (hl:es.length≤63) {xs:List (List T)} (hw:∀ r∈xs,WTs es r) (n:Nat):n≤(mkRows (mkR es) n xs).1∧(mkRows (mkR es) n xs).1≤n+64 * bulkRs xs :=
 mkRows_le (g:=mkR es) (xs:=xs) (fun m r hr=>by
  have:=mkR_le es m r hm (hw r hr)
  omega) n
theorem beyondR_fit (s:List Rcd) (A:List Int) {fr area:Int} (h1:I64 fr) (h2:I64 area):(∀ r∈beyondR s A fr area,OkRcd r)∧blks blkRcd (beyondR s A fr area)≤6:=by
 refine ⟨fun r hr=>?_,?_⟩
 ·obtain ⟨q1,q2,q3,q4,q5,q6,q7,q8,_⟩:=beyondR_rec hr
  exact ⟨q1 ▸ h2,I64.mk (by omega) (by omega),q3 ▸ h1,I64.mk (by omega) (by omega),I64.mk (by omega) (by omega),⟨by rw [q5];simp,by rw [q5];simp⟩,I64.mk (by omega) (by omega)⟩
 ·have hl:=beyondR_len s A fr area
  have:∀ l:List Rcd,(∀ r∈l,r.near=[])→blks blkRcd l≤l.length:=by
   intro l
   induction l with
   | nil=>intro _;simp [blks]
   | cons r l ih =>
    intro h
    have h3:=ih fun y hy=>h y (.tail _ hy)
    have h4:blkRcd r=0:=by unfold blkRcd;rw [h r (.head _)];rfl
    simp only [blks,h4,List.length_cons]
    omega
  exact Nat.le_trans (this _ fun r hr=>(beyondR_rec hr).2.2.2.2.1) hl
theorem true_FnExactBeyond (ts:List T) (h0:WTs ys_FnExactBeyond ts):F_FnExactBeyond ts=some [.c (.bool true)]:=by
 obtain ⟨t1,_,rfl,q1,t2,_,rfl,q2,_,_,rfl,⟨fr,rfl,hfr⟩,_,_,rfl,⟨area,rfl,har⟩,rfl⟩:=WTsU_of h0
 unfold WT at q1 q2
 obtain ⟨z1,rfl,m1,g1⟩:=q1
 obtain ⟨s,rfl,hs⟩:=dec_list dRcd g1
 obtain ⟨z2,rfl,m2,g2⟩:=q2
 obtain ⟨A,rfl,hA⟩:=dec_list dInt g2
 rw [List.length_map] at m1 m2
 have s5:S_FnExactBeyond 5=F_szRecordS:=rfl
 have s6:S_FnExactBeyond 6=F_s_Beyond:=rfl
 have s7:S_FnExactBeyond 7=F_toRecordS:=rfl
 have s8:S_FnExactBeyond 8=F_toIntS:=rfl
 have s9:S_FnExactBeyond 9=F_i_Beyond:=rfl
 have s10:S_FnExactBeyond 10=F_eqRecordS:=rfl
 have s11:S_FnExactBeyond 11=F_eqIntS:=rfl
 have s14:S_FnExactBeyond 14=F_heldRecordS:=rfl
 by_cases i1:((A.map eInt).length:Int) > 1048576
 ·simp (implicitDefEqProofs:=false) only [F_FnExactBeyond,p_FnExactBeyond,pl_ret,pl_pr,pl_cl,pl_ite,pl_go0,pl_goS,List.map_cons,List.map_nil,ev_k,ev_e,ev_a,List.cons_append,List.nil_append,List.append_assoc,List.getD_cons_zero,List.getD_cons_succ,bind_some',pickN,ifT_b,cond_true,cond_false,decide_true,decide_false,ev_len,ev_lens,ev_scl_i,ev_scl_b,ev_scl_s,ev_lss,ev_leq,ev_gtr,ev_geq,ev_eql,ev_neq,ev_add,ev_sub,ev_eqlS,ev_neqS,ev_bbneq,ev_bbeql,ev_not,Bool.not_true,Bool.not_false,bne_self_eq_false,beq_self_eq_true,i1]
 have j1:=i1
 rw [List.length_map] at j1
 have wS:WTs [.sl yRcd] [.l (s.map eRcd)]:=WTs_sl (by rw [List.length_map];exact m1) g1
 have wA:WTs [.sl yInt] [.l (A.map eInt)]:=WTs_sl (by rw [List.length_map];exact m2) g2
 obtain ⟨n,e1,b1,c1⟩:=so_szRecordS _ 1048576 wS (by omega) (by omega)
 simp only [List.cons_append,List.nil_append] at e1
 have kS:bulkR [T.l (s.map eRcd)]=blks blkRcd s:=by rw [bulkR_cons,bulkR_nil,bulk_l,blks_eq bRcd,Nat.add_zero]
 rw [kS] at c1
 by_cases q:n < 0
 ·simp (implicitDefEqProofs:=false) only [F_FnExactBeyond,p_FnExactBeyond,pl_ret,pl_pr,pl_cl,pl_ite,pl_go0,pl_goS,List.map_cons,List.map_nil,ev_k,ev_e,ev_a,List.cons_append,List.nil_append,List.append_assoc,List.getD_cons_zero,List.getD_cons_succ,bind_some',pickN,ifT_b,cond_true,cond_false,decide_true,decide_false,ev_len,ev_lens,ev_scl_i,ev_scl_b,ev_scl_s,ev_lss,ev_leq,ev_gtr,ev_geq,ev_eql,ev_neq,ev_add,ev_sub,ev_eqlS,ev_neqS,ev_bbneq,ev_bbeql,ev_not,Bool.not_true,Bool.not_false,bne_self_eq_false,beq_self_eq_true,s5,e1,i1,q]
 have c2:=c1 (by omega)
 have hb:blks blkRcd s≤1048576:=by omega
 have lenI:∀ m:List Int,blks blkInt m=m.length:=by
  intro m;induction m with
  | nil=>rfl
  | cons a m ih=>simp only [blks,ih,blkInt,List.length_cons];omega
 have bS:bulkR [T.l (s.map eRcd)]≤1048576:=by rw [kS];exact hb
 have bA:bulkR [T.l (A.map eInt)]≤1048576:=by rw [bulkR_cons,bulkR_nil,bulk_l,blks_eq bInt,lenI];omega
 have f1:=so_toRecordS _ wS bS
 have f2:=so_toIntS _ wA bA
 have f3:=so_eqRecordS _ wS bS
 have f4:=so_eqIntS _ wA bA
 simp only [List.cons_append,List.nil_append] at f3 f4
 have h1:=blks_len (f:=blkRcd) s
 have hn:=nearL_of hb
 have a1:=e_i_Beyond s A fr area (by omega) hn (by omega)
 have a2:=e_s_Beyond s A fr area (by omega) hn (by omega)
 obtain ⟨r1,r3⟩:=beyondR_fit s A (fr:=fr) (area:=area) hfr har
 have r2:=beyondR_len s A fr area
 generalize beyondR s A fr area=B at a1 a2 r1 r2 r3
 have hR:=enc_list wRcd r1
 have hwR:WTs [.sl yRcd] [.l (B.map eRcd)]:=WTs_sl (by rw [List.length_map];unfold maxLen;omega) hR
 have hbR:bulkRs (B.map eRcd)≤6:=by rw [blks_eq bRcd];exact r3
 have hbR':bulkR [T.l (B.map eRcd)]≤1048576:=by rw [bulkR_cons,bulkR_nil,bulk_l];omega
 have e6:=so_eqRecordS _ hwR hbR'
 simp only [List.cons_append,List.nil_append] at e6
 have e7:=so_heldRecordS 1 _ hwR hbR' (by rw [bulkR_cons,bulkR_nil,bulk_l];omega)
 rw [mkR_cons,mkR_nil,mkT_sl] at e7
 have e7:F_heldRecordS [.l (mkRows (mkR yRcd) 1 (B.map eRcd)).2,.c (.int .i64 1)]=some [.c (.int .i64 ((mkRows (mkR yRcd) 1 (B.map eRcd)).1:Int))]:=e7
 have k1:=blks_eq bRcd s
 have k2:=blks_eq bInt A
 rw [lenI] at k2
 obtain ⟨n1,q1⟩:∃ n1,n1=(mkRows (mkR yRcd) 1 (s.map eRcd)).1:=⟨_,rfl⟩
 have m1:=mk_bnd yRcd rfl (by decide) g1 1
 rw [← q1] at m1
 obtain ⟨n2,q2⟩:∃ n2,n2=(mkRows (mkR yInt) n1 (A.map eInt)).1:=⟨_,rfl⟩
 have m2:=mk_bnd yInt rfl (by decide) g2 n1
 rw [← q2] at m2
 have m6:=mk_bnd yRcd rfl (by decide) hR 1
 rw [k1] at m1;rw [k2] at m2
 have z1:¬ ((n2:Int) < 0):=by omega
 have z2:¬ (((mkRows (mkR yRcd) 1 (B.map eRcd)).1:Int) < 0):=by omega
 simp (implicitDefEqProofs:=false) only [F_FnExactBeyond,p_FnExactBeyond,pl_ret,pl_pr,pl_cl,pl_ite,pl_go0,pl_goS,List.map_cons,List.map_nil,ev_k,ev_e,ev_a,List.cons_append,List.nil_append,List.append_assoc,List.getD_cons_zero,List.getD_cons_succ,bind_some',pickN,ifT_b,cond_true,cond_false,decide_true,decide_false,ev_len,ev_lens,ev_scl_i,ev_scl_b,ev_scl_s,ev_lss,ev_leq,ev_gtr,ev_geq,ev_eql,ev_neq,ev_add,ev_sub,ev_eqlS,ev_neqS,ev_bbneq,ev_bbeql,ev_not,Bool.not_true,Bool.not_false,bne_self_eq_false,beq_self_eq_true,s5,s6,s7,s8,s9,s10,s11,e1,f1,f2,f3,f4,a1,a2,e6,q,i1]
 refine lv_top (es:=yRcd) (flds:=mkFsP yRcd 8 0) (cl:=.k (.int .i64 1)) (s:=11) (p:=22) (n:=1) (mkFs_ok yRcd 0 rfl 8) (by decide) rfl rfl (by omega) rfl rfl g1 (by omega) (by omega) fun f=>?_
 rw [← q1]
 refine lv_top (es:=yInt) (flds:=mkFsP yInt 1 0) (cl:=.a 22) (s:=12) (p:=27) (n:=n1) (mkFs_ok yInt 0 rfl 1) (by decide) rfl rfl (by omega) rfl rfl g2 (by omega) (by omega) fun f=>?_
 rw [← q2]
 simp (implicitDefEqProofs:=false) only [pl_ret,pl_pr,pl_cl,pl_ite,pl_go0,pl_goS,List.map_cons,List.map_nil,ev_k,ev_e,ev_a,List.cons_append,List.nil_append,List.append_assoc,List.getD_cons_zero,List.getD_cons_succ,bind_some',pickN,ifT_b,cond_true,cond_false,decide_true,decide_false,ev_len,ev_lens,ev_scl_i,ev_scl_b,ev_scl_s,ev_lss,ev_leq,ev_gtr,ev_geq,ev_eql,ev_neq,ev_add,ev_sub,ev_eqlS,ev_neqS,ev_bbneq,ev_bbeql,ev_not,Bool.not_true,Bool.not_false,bne_self_eq_false,beq_self_eq_true,s10,e6,z1]
 refine lv_top (es:=yRcd) (flds:=mkFsP yRcd 8 0) (cl:=.k (.int .i64 1)) (s:=13) (p:=35) (n:=1) (mkFs_ok yRcd 0 rfl 8) (by decide) rfl rfl (by omega) rfl rfl hR (by omega) (by omega) fun f=>?_
 simp (implicitDefEqProofs:=false) only [pl_ret,pl_pr,pl_cl,pl_ite,pl_go0,pl_goS,List.map_cons,List.map_nil,ev_k,ev_e,ev_a,List.cons_append,List.nil_append,List.append_assoc,List.getD_cons_zero,List.getD_cons_succ,bind_some',pickN,ifT_b,cond_true,cond_false,decide_true,decide_false,ev_len,ev_lens,ev_scl_i,ev_scl_b,ev_scl_s,ev_lss,ev_leq,ev_gtr,ev_geq,ev_eql,ev_neq,ev_add,ev_sub,ev_eqlS,ev_neqS,ev_bbneq,ev_bbeql,ev_not,Bool.not_true,Bool.not_false,bne_self_eq_false,beq_self_eq_true,s7,s8,s9,s10,s14,f1,f2,a1,e6,e7,z2]
end Go.Proofs.YtiebbbmibbkpcaaC

/- FnExactRoutes: what the plain programs say. Conditions: none. -/
import Derived.Test.YtiebbbmibbkpcaaGreatXMR
import Derived.Test.YtiebbbmibbkpcaaGreatKe
import Derived.Test.YtiebbbmibbkpcaaGreatXSQ
namespace Go.Proofs.YtiebbbmibbkpcaaGreatC
set_option linter.unusedVariables false
set_option linter.unusedSimpArgs false
def ys_FnExactRoutes:List Ty:=yNode
theorem mk_bnd (es:List Ty) (hm:mkOk es=true) (hl:es.length≤63) {xs:List (List T)} (hw:∀ r∈xs,WTs es r) (n:Nat):n≤(mkRows (mkR es) n xs).1∧(mkRows (mkR es) n xs).1≤n+64 * bulkRs xs :=
 mkRows_le (g:=mkR es) (xs:=xs) (fun m r hr=>by
  have:=mkR_le es m r hm (hw r hr)
  omega) n
theorem true_FnExactRoutes (ts:List T) (h:WTs ys_FnExactRoutes ts):F_FnExactRoutes ts=some [.c (.bool true)]:=by
 obtain ⟨x,rfl,hx⟩:=dNode ts h
 have s17:S_FnExactRoutes 17=F_eqRouteS:=rfl
 have s23:S_FnExactRoutes 23=F_heldRouteS:=rfl
 have s24:S_FnExactRoutes 24=F_szNode:=rfl
 have s25:S_FnExactRoutes 25=F_s_Routes:=rfl
 have s26:S_FnExactRoutes 26=F_toNode:=rfl
 have s27:S_FnExactRoutes 27=F_i_Routes:=rfl
 have s28:S_FnExactRoutes 28=F_eqNode:=rfl
 obtain ⟨n,e1,b1,c1⟩:=so_szNode _ 1048576 h (by omega) (by omega)
 rw [bNode] at c1
 simp only [eNode,List.cons_append,List.nil_append] at e1 ⊢
 by_cases q:n < 0
 ·simp only [F_FnExactRoutes,p_FnExactRoutes,pl_ret,pl_pr,pl_cl,pl_ite,pl_go0,pl_goS,List.map_cons,List.map_nil,ev_k,ev_e,ev_a,List.cons_append,List.nil_append,List.append_assoc,List.getD_cons_zero,List.getD_cons_succ,bind_some',pickN,ifT_b,cond_true,cond_false,decide_true,decide_false,ev_len,ev_lens,ev_scl_i,ev_scl_b,ev_scl_s,ev_lss,ev_leq,ev_gtr,ev_geq,ev_eql,ev_neq,ev_add,ev_sub,ev_eqlS,ev_neqS,ev_bbneq,ev_bbeql,ev_not,Bool.not_true,Bool.not_false,bne_self_eq_false,beq_self_eq_true,s24,e1,q]
 have c2:=c1 (by omega)
 have hb:blkNode x≤1048576:=by omega
 have e2:=so_toNode _ h (by rw [bNode];exact hb)
 have e3:=so_eqNode _ h (by rw [bNode];exact hb)
 simp only [eNode,List.cons_append,List.nil_append] at e2 e3
 unfold blkNode at hb
 have h1:=blks_len (f:=blkLink) x.self.net.links
 have h2:=blks_len (f:=blkThing) x.self.net.things
 have h3:=blks_len (f:=blkInt) x.self.heard
 have h4:=blks_len (f:=blkRcd) x.self.store
 have h5:=blks_len (f:=blkEar) x.ears
 have a1:=e_i_Routes x.self.id x.self.boot x.self.net.n x.self.net.links x.self.net.things x.self.heard x.self.store x.ears (by omega) (by omega) (by omega) (by omega) (nearL_of (by omega)) (by omega)
 have a2:=e_s_Routes x.self.id x.self.boot x.self.net.n x.self.net.links x.self.net.things x.self.heard x.self.store x.ears (by omega) (by omega) (by omega) (by omega) (nearL_of (by omega)) (by omega)
 rw [show (⟨⟨x.self.id,x.self.boot,⟨x.self.net.n,x.self.net.links,x.self.net.things⟩,x.self.heard,x.self.store⟩,x.ears⟩:Node)=x from rfl] at a1 a2
 obtain ⟨r1,r2,r3⟩:=nodeRoutes_ok x
 have hR:=enc_list wRoute r1
 have hwR:WTs [.sl yRoute] [.l ((nodeRoutes x).map eRoute)]:=WTs_sl (by rw [List.length_map];unfold maxLen;omega) hR
 have hbR:bulkRs ((nodeRoutes x).map eRoute)≤147:=by rw [blks_eq bRoute];exact r3
 have hbR':bulkR [T.l ((nodeRoutes x).map eRoute)]≤1048576:=by rw [bulkR_cons,bulkR_nil,bulk_l];omega
 have e6:=so_eqRouteS _ hwR hbR'
 simp only [List.cons_append,List.nil_append] at e6
 have e7:=so_heldRouteS 1 _ hwR hbR' (by rw [bulkR_cons,bulkR_nil,bulk_l];omega)
 rw [mkR_cons,mkR_nil,mkT_sl] at e7
 have e7:F_heldRouteS [.l (mkRows (mkR yRoute) 1 ((nodeRoutes x).map eRoute)).2,.c (.int .i64 1)]=some [.c (.int .i64 ((mkRows (mkR yRoute) 1 ((nodeRoutes x).map eRoute)).1:Int))]:=e7
 obtain ⟨_,_,_,⟨_,o1⟩,⟨_,o2⟩,⟨_,o3⟩,⟨_,o4⟩,⟨_,o5⟩⟩:=hx
 have w1:=enc_list wLink o1
 have w2:=enc_list wThing o2
 have w3:=enc_list wInt o3
 have w4:=enc_list wRcd o4
 have w5:=enc_list wEar o5
 have k1:=blks_eq bLink x.self.net.links
 have k2:=blks_eq bThing x.self.net.things
 have k3:=blks_eq bInt x.self.heard
 have k4:=blks_eq bRcd x.self.store
 have k5:=blks_eq bEar x.ears
 obtain ⟨n1,q1⟩:∃ n1,n1=(mkRows (mkR yLink) 1 (x.self.net.links.map eLink)).1:=⟨_,rfl⟩
 have m1:=mk_bnd yLink rfl (by decide) w1 1
 rw [← q1] at m1
 obtain ⟨n2,q2⟩:∃ n2,n2=(mkRows (mkR yThing) n1 (x.self.net.things.map eThing)).1:=⟨_,rfl⟩
 have m2:=mk_bnd yThing rfl (by decide) w2 n1
 rw [← q2] at m2
 obtain ⟨n3,q3⟩:∃ n3,n3=(mkRows (mkR yInt) n2 (x.self.heard.map eInt)).1:=⟨_,rfl⟩
 have m3:=mk_bnd yInt rfl (by decide) w3 n2
 rw [← q3] at m3
 obtain ⟨n4,q4⟩:∃ n4,n4=(mkRows (mkR yRcd) n3 (x.self.store.map eRcd)).1:=⟨_,rfl⟩
 have m4:=mk_bnd yRcd rfl (by decide) w4 n3
 rw [← q4] at m4
 obtain ⟨n5,q5⟩:∃ n5,n5=(mkRows (mkR yEar) n4 (x.ears.map eEar)).1:=⟨_,rfl⟩
 have m5:=mk_bnd yEar rfl (by decide) w5 n4
 rw [← q5] at m5
 have m6:=mk_bnd yRoute rfl (by decide) hR 1
 rw [k1] at m1;rw [k2] at m2;rw [k3] at m3;rw [k4] at m4;rw [k5] at m5
 have z1:¬ ((n5:Int) < 0):=by omega
 have z2:¬ (((mkRows (mkR yRoute) 1 ((nodeRoutes x).map eRoute)).1:Int) < 0):=by omega
 simp (implicitDefEqProofs:=false) only [F_FnExactRoutes,p_FnExactRoutes,pl_ret,pl_pr,pl_cl,pl_ite,pl_go0,pl_goS,List.map_cons,List.map_nil,ev_k,ev_e,ev_a,List.cons_append,List.nil_append,List.append_assoc,List.getD_cons_zero,List.getD_cons_succ,bind_some',pickN,ifT_b,cond_true,cond_false,decide_true,decide_false,ev_len,ev_lens,ev_scl_i,ev_scl_b,ev_scl_s,ev_lss,ev_leq,ev_gtr,ev_geq,ev_eql,ev_neq,ev_add,ev_sub,ev_eqlS,ev_neqS,ev_bbneq,ev_bbeql,ev_not,Bool.not_true,Bool.not_false,bne_self_eq_false,beq_self_eq_true,s17,s24,s25,s26,s27,s28,e1,e2,e3,a1,a2,e6,q]
 refine lv_top (es:=yLink) (flds:=mkFsP yLink 4 0) (cl:=.k (.int .i64 1)) (s:=22) (p:=40) (n:=1) (mkFs_ok yLink 0 rfl 4) (by decide) rfl rfl (by omega) rfl rfl w1 (by omega) (by omega) fun f=>?_
 rw [← q1]
 refine lv_top (es:=yThing) (flds:=mkFsP yThing 4 0) (cl:=.a 40) (s:=23) (p:=45) (n:=n1) (mkFs_ok yThing 0 rfl 4) (by decide) rfl rfl (by omega) rfl rfl w2 (by omega) (by omega) fun f=>?_
 rw [← q2]
 refine lv_top (es:=yInt) (flds:=mkFsP yInt 1 0) (cl:=.a 45) (s:=24) (p:=50) (n:=n2) (mkFs_ok yInt 0 rfl 1) (by decide) rfl rfl (by omega) rfl rfl w3 (by omega) (by omega) fun f=>?_
 rw [← q3]
 refine lv_top (es:=yRcd) (flds:=mkFsP yRcd 8 0) (cl:=.a 50) (s:=25) (p:=55) (n:=n3) (mkFs_ok yRcd 0 rfl 8) (by decide) rfl rfl (by omega) rfl rfl w4 (by omega) (by omega) fun f=>?_
 rw [← q4]
 refine lv_top (es:=yEar) (flds:=mkFsP yEar 4 0) (cl:=.a 55) (s:=26) (p:=60) (n:=n4) (mkFs_ok yEar 0 rfl 4) (by decide) rfl rfl (by omega) rfl rfl w5 (by omega) (by omega) fun f=>?_
 rw [← q5]
 simp (implicitDefEqProofs:=false) only [pl_ret,pl_pr,pl_cl,pl_ite,pl_go0,pl_goS,List.map_cons,List.map_nil,ev_k,ev_e,ev_a,List.cons_append,List.nil_append,List.append_assoc,List.getD_cons_zero,List.getD_cons_succ,bind_some',pickN,ifT_b,cond_true,cond_false,decide_true,decide_false,ev_len,ev_lens,ev_scl_i,ev_scl_b,ev_scl_s,ev_lss,ev_leq,ev_gtr,ev_geq,ev_eql,ev_neq,ev_add,ev_sub,ev_eqlS,ev_neqS,ev_bbneq,ev_bbeql,ev_not,Bool.not_true,Bool.not_false,bne_self_eq_false,beq_self_eq_true,s17,e6,z1]
 refine lv_top (es:=yRoute) (flds:=mkFsP yRoute 6 0) (cl:=.k (.int .i64 1)) (s:=27) (p:=68) (n:=1) (mkFs_ok yRoute 0 rfl 6) (by decide) rfl rfl (by omega) rfl rfl hR (by omega) (by omega) fun f=>?_
 simp (implicitDefEqProofs:=false) only [pl_ret,pl_pr,pl_cl,pl_ite,pl_go0,pl_goS,List.map_cons,List.map_nil,ev_k,ev_e,ev_a,List.cons_append,List.nil_append,List.append_assoc,List.getD_cons_zero,List.getD_cons_succ,bind_some',pickN,ifT_b,cond_true,cond_false,decide_true,decide_false,ev_len,ev_lens,ev_scl_i,ev_scl_b,ev_scl_s,ev_lss,ev_leq,ev_gtr,ev_geq,ev_eql,ev_neq,ev_add,ev_sub,ev_eqlS,ev_neqS,ev_bbneq,ev_bbeql,ev_not,Bool.not_true,Bool.not_false,bne_self_eq_false,beq_self_eq_true,s17,s23,s26,s27,e2,a1,e6,e7,z2]
end Go.Proofs.YtiebbbmibbkpcaaGreatC

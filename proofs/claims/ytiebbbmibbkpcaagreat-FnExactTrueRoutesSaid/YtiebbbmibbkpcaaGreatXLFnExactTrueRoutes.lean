/- FnExactTrueRoutes: what the plain programs say. Conditions: none. -/
import Derived.Test.YtiebbbmibbkpcaaGreatXMR
import Derived.Test.YtiebbbmibbkpcaaGreatKe
import Derived.Test.YtiebbbmibbkpcaaGreatXSU
namespace Go.Proofs.YtiebbbmibbkpcaaGreatC
set_option linter.unusedVariables false
set_option linter.unusedSimpArgs false
def ys_FnExactTrueRoutes:List Ty:=yNet++[.sl yBool,.sl yBool,.i .i64]
theorem mk_bnd (es:List Ty) (hm:mkOk es=true) (hl:es.length≤63) {xs:List (List T)} (hw:∀ r∈xs,WTs es r) (n:Nat):n≤(mkRows (mkR es) n xs).1∧(mkRows (mkR es) n xs).1≤n+64 * bulkRs xs :=
 mkRows_le (g:=mkR es) (xs:=xs) (fun m r hr=>by
  have:=mkR_le es m r hm (hw r hr)
  omega) n
theorem trueRoutes_ok (x:Net) (L U:List Bool) (v:Int):(∀ r∈trueRoutes x L U v,OkRoute r)∧(trueRoutes x L U v).length≤21∧blks blkRoute (trueRoutes x L U v)≤147:=by
 unfold trueRoutes
 split
 ·rename_i h
  have hs:=(ideal_sto (L:=L) (U:=U) (idealB_iff h.1).1).ok (by omega)
  have h1:=routesOf_len (ideal x L U) (areasOf x.links v) (border x.links v) v
  have h2:=routesOf_ok hs (A:=areasOf x.links v) (z:=border x.links v) (fr:=v)
  have h3:=routes_blks fun r hr=>(h2 r hr).2
  exact ⟨fun r hr=>(h2 r hr).1,h1,by omega⟩
 ·exact ⟨by simp,by simp,by simp [blks]⟩
theorem true_FnExactTrueRoutes (ts:List T) (h0:WTs ys_FnExactTrueRoutes ts):F_FnExactTrueRoutes ts=some [.c (.bool true)]:=by
 obtain ⟨ws,us,rfl,h,hu⟩:=WTs_split (fs:=yNet) h0
 obtain ⟨t1,_,rfl,q1,t2,_,rfl,q2,_,_,rfl,⟨v,rfl,hv⟩,rfl⟩:=WTsU_of hu
 have q1':=q1
 have q2':=q2
 unfold WT at q1 q2
 obtain ⟨z1,rfl,m1,g1⟩:=q1
 obtain ⟨L,rfl,hL⟩:=dec_list dBool g1
 obtain ⟨z2,rfl,m2,g2⟩:=q2
 obtain ⟨U,rfl,hU⟩:=dec_list dBool g2
 rw [List.length_map] at m1 m2
 obtain ⟨x,rfl,hx⟩:=dNet ws h
 have s12:S_FnExactTrueRoutes 12=F_szNet:=rfl
 have s13:S_FnExactTrueRoutes 13=F_s_TrueRoutes:=rfl
 have s14:S_FnExactTrueRoutes 14=F_toNet:=rfl
 have s15:S_FnExactTrueRoutes 15=F_toBoolS:=rfl
 have s16:S_FnExactTrueRoutes 16=F_i_TrueRoutes:=rfl
 have s17:S_FnExactTrueRoutes 17=F_eqRouteS:=rfl
 have s18:S_FnExactTrueRoutes 18=F_eqNet:=rfl
 have s19:S_FnExactTrueRoutes 19=F_eqBoolS:=rfl
 have s23:S_FnExactTrueRoutes 23=F_heldRouteS:=rfl
 simp only [eNet,List.cons_append,List.nil_append] at h ⊢
 by_cases i1:((L.map eBool).length:Int) > 1048576
 ·simp (implicitDefEqProofs:=false) only [F_FnExactTrueRoutes,p_FnExactTrueRoutes,pl_ret,pl_pr,pl_cl,pl_ite,pl_go0,pl_goS,List.map_cons,List.map_nil,ev_k,ev_e,ev_a,List.cons_append,List.nil_append,List.append_assoc,List.getD_cons_zero,List.getD_cons_succ,bind_some',pickN,ifT_b,cond_true,cond_false,decide_true,decide_false,ev_len,ev_lens,ev_scl_i,ev_scl_b,ev_scl_s,ev_lss,ev_leq,ev_gtr,ev_geq,ev_eql,ev_neq,ev_add,ev_sub,ev_eqlS,ev_neqS,ev_bbneq,ev_bbeql,ev_not,Bool.not_true,Bool.not_false,bne_self_eq_false,beq_self_eq_true,i1]
 by_cases i2:((U.map eBool).length:Int) > 1048576
 ·simp (implicitDefEqProofs:=false) only [F_FnExactTrueRoutes,p_FnExactTrueRoutes,pl_ret,pl_pr,pl_cl,pl_ite,pl_go0,pl_goS,List.map_cons,List.map_nil,ev_k,ev_e,ev_a,List.cons_append,List.nil_append,List.append_assoc,List.getD_cons_zero,List.getD_cons_succ,bind_some',pickN,ifT_b,cond_true,cond_false,decide_true,decide_false,ev_len,ev_lens,ev_scl_i,ev_scl_b,ev_scl_s,ev_lss,ev_leq,ev_gtr,ev_geq,ev_eql,ev_neq,ev_add,ev_sub,ev_eqlS,ev_neqS,ev_bbneq,ev_bbeql,ev_not,Bool.not_true,Bool.not_false,bne_self_eq_false,beq_self_eq_true,i1,i2]
 have j1:=i1
 have j2:=i2
 rw [List.length_map] at j1 j2
 obtain ⟨n,e1,b1,c1⟩:=so_szNet _ 1048576 h (by omega) (by omega)
 rw [show bulkR [ii x.n,T.l (x.links.map eLink),T.l (x.things.map eThing)]=blkNet x from bNet x] at c1
 simp only [List.cons_append,List.nil_append] at e1
 by_cases q:n < 0
 ·simp (implicitDefEqProofs:=false) only [F_FnExactTrueRoutes,p_FnExactTrueRoutes,pl_ret,pl_pr,pl_cl,pl_ite,pl_go0,pl_goS,List.map_cons,List.map_nil,ev_k,ev_e,ev_a,List.cons_append,List.nil_append,List.append_assoc,List.getD_cons_zero,List.getD_cons_succ,bind_some',pickN,ifT_b,cond_true,cond_false,decide_true,decide_false,ev_len,ev_lens,ev_scl_i,ev_scl_b,ev_scl_s,ev_lss,ev_leq,ev_gtr,ev_geq,ev_eql,ev_neq,ev_add,ev_sub,ev_eqlS,ev_neqS,ev_bbneq,ev_bbeql,ev_not,Bool.not_true,Bool.not_false,bne_self_eq_false,beq_self_eq_true,s12,e1,i1,i2,q]
 have c2:=c1 (by omega)
 have hb:blkNet x≤1048576:=by omega
 have hb':bulkR [ii x.n,T.l (x.links.map eLink),T.l (x.things.map eThing)]≤1048576:=by
  rw [show bulkR [ii x.n,T.l (x.links.map eLink),T.l (x.things.map eThing)]=blkNet x from bNet x];exact hb
 have e2:=so_toNet _ h hb'
 have e3:=so_eqNet _ h hb'
 simp only [List.cons_append,List.nil_append] at e2 e3
 have lenB:∀ m:List Bool,blks blkBool m=m.length:=by
  intro m;induction m with
  | nil=>rfl
  | cons a m ih=>simp only [blks,ih,blkBool,List.length_cons];omega
 have wL:WTs [.sl yBool] [.l (L.map eBool)]:=WTs_sl (by rw [List.length_map];exact m1) g1
 have wU:WTs [.sl yBool] [.l (U.map eBool)]:=WTs_sl (by rw [List.length_map];exact m2) g2
 have bL:bulkR [T.l (L.map eBool)]≤1048576:=by rw [bulkR_cons,bulkR_nil,bulk_l,blks_eq bBool,lenB];omega
 have bU:bulkR [T.l (U.map eBool)]≤1048576:=by rw [bulkR_cons,bulkR_nil,bulk_l,blks_eq bBool,lenB];omega
 have f1:=so_toBoolS _ wL bL
 have f2:=so_toBoolS _ wU bU
 have f3:=so_eqBoolS _ wL bL
 have f4:=so_eqBoolS _ wU bU
 simp only [List.cons_append,List.nil_append] at f3 f4
 unfold blkNet at hb
 have h1:=blks_len (f:=blkLink) x.links
 have h2:=blks_len (f:=blkThing) x.things
 have a1:=e_i_TrueRoutes x.n x.links x.things L U v (by omega) (by omega)
 have a2:=e_s_TrueRoutes x.n x.links x.things L U v (by omega) (by omega)
 rw [show (⟨x.n,x.links,x.things⟩:Net)=x from rfl] at a1 a2
 obtain ⟨r1,r2,r3⟩:=trueRoutes_ok x L U v
 have hR:=enc_list wRoute r1
 have hwR:WTs [.sl yRoute] [.l ((trueRoutes x L U v).map eRoute)]:=WTs_sl (by rw [List.length_map];unfold maxLen;omega) hR
 have hbR:bulkRs ((trueRoutes x L U v).map eRoute)≤147:=by rw [blks_eq bRoute];exact r3
 have hbR':bulkR [T.l ((trueRoutes x L U v).map eRoute)]≤1048576:=by rw [bulkR_cons,bulkR_nil,bulk_l];omega
 have e6:=so_eqRouteS _ hwR hbR'
 simp only [List.cons_append,List.nil_append] at e6
 have e7:=so_heldRouteS 1 _ hwR hbR' (by rw [bulkR_cons,bulkR_nil,bulk_l];omega)
 rw [mkR_cons,mkR_nil,mkT_sl] at e7
 have e7:F_heldRouteS [.l (mkRows (mkR yRoute) 1 ((trueRoutes x L U v).map eRoute)).2,.c (.int .i64 1)]=some [.c (.int .i64 ((mkRows (mkR yRoute) 1 ((trueRoutes x L U v).map eRoute)).1:Int))]:=e7
 obtain ⟨_,⟨_,o1⟩,⟨_,o2⟩⟩:=hx
 have w1:=enc_list wLink o1
 have w2:=enc_list wThing o2
 have k1:=blks_eq bLink x.links
 have k2:=blks_eq bThing x.things
 have k3:=blks_eq bBool L
 have k4:=blks_eq bBool U
 rw [lenB] at k3 k4
 obtain ⟨n1,q1⟩:∃ n1,n1=(mkRows (mkR yLink) 1 (x.links.map eLink)).1:=⟨_,rfl⟩
 have m1:=mk_bnd yLink rfl (by decide) w1 1
 rw [← q1] at m1
 obtain ⟨n2,q2⟩:∃ n2,n2=(mkRows (mkR yThing) n1 (x.things.map eThing)).1:=⟨_,rfl⟩
 have m2:=mk_bnd yThing rfl (by decide) w2 n1
 rw [← q2] at m2
 obtain ⟨n3,q3⟩:∃ n3,n3=(mkRows (mkR yBool) n2 (L.map eBool)).1:=⟨_,rfl⟩
 have m3:=mk_bnd yBool rfl (by decide) g1 n2
 rw [← q3] at m3
 obtain ⟨n4,q4⟩:∃ n4,n4=(mkRows (mkR yBool) n3 (U.map eBool)).1:=⟨_,rfl⟩
 have m4:=mk_bnd yBool rfl (by decide) g2 n3
 rw [← q4] at m4
 have m6:=mk_bnd yRoute rfl (by decide) hR 1
 rw [k1] at m1;rw [k2] at m2;rw [k3] at m3;rw [k4] at m4
 have z1:¬ ((n4:Int) < 0):=by omega
 have z2:¬ (((mkRows (mkR yRoute) 1 ((trueRoutes x L U v).map eRoute)).1:Int) < 0):=by omega
 simp (implicitDefEqProofs:=false) only [F_FnExactTrueRoutes,p_FnExactTrueRoutes,pl_ret,pl_pr,pl_cl,pl_ite,pl_go0,pl_goS,List.map_cons,List.map_nil,ev_k,ev_e,ev_a,List.cons_append,List.nil_append,List.append_assoc,List.getD_cons_zero,List.getD_cons_succ,bind_some',pickN,ifT_b,cond_true,cond_false,decide_true,decide_false,ev_len,ev_lens,ev_scl_i,ev_scl_b,ev_scl_s,ev_lss,ev_leq,ev_gtr,ev_geq,ev_eql,ev_neq,ev_add,ev_sub,ev_eqlS,ev_neqS,ev_bbneq,ev_bbeql,ev_not,Bool.not_true,Bool.not_false,bne_self_eq_false,beq_self_eq_true,s12,s13,s14,s15,s16,s17,s18,s19,e1,e2,e3,f1,f2,f3,f4,a1,a2,e6,q,i1,i2]
 refine lv_top (es:=yLink) (flds:=mkFsP yLink 4 0) (cl:=.k (.int .i64 1)) (s:=19) (p:=37) (n:=1) (mkFs_ok yLink 0 rfl 4) (by decide) rfl rfl (by omega) rfl rfl w1 (by omega) (by omega) fun f=>?_
 rw [← q1]
 refine lv_top (es:=yThing) (flds:=mkFsP yThing 4 0) (cl:=.a 37) (s:=20) (p:=42) (n:=n1) (mkFs_ok yThing 0 rfl 4) (by decide) rfl rfl (by omega) rfl rfl w2 (by omega) (by omega) fun f=>?_
 rw [← q2]
 refine lv_top (es:=yBool) (flds:=mkFsP yBool 1 0) (cl:=.a 42) (s:=21) (p:=47) (n:=n2) (mkFs_ok yBool 0 rfl 1) (by decide) rfl rfl (by omega) rfl rfl g1 (by omega) (by omega) fun f=>?_
 rw [← q3]
 refine lv_top (es:=yBool) (flds:=mkFsP yBool 1 0) (cl:=.a 47) (s:=22) (p:=52) (n:=n3) (mkFs_ok yBool 0 rfl 1) (by decide) rfl rfl (by omega) rfl rfl g2 (by omega) (by omega) fun f=>?_
 rw [← q4]
 simp (implicitDefEqProofs:=false) only [pl_ret,pl_pr,pl_cl,pl_ite,pl_go0,pl_goS,List.map_cons,List.map_nil,ev_k,ev_e,ev_a,List.cons_append,List.nil_append,List.append_assoc,List.getD_cons_zero,List.getD_cons_succ,bind_some',pickN,ifT_b,cond_true,cond_false,decide_true,decide_false,ev_len,ev_lens,ev_scl_i,ev_scl_b,ev_scl_s,ev_lss,ev_leq,ev_gtr,ev_geq,ev_eql,ev_neq,ev_add,ev_sub,ev_eqlS,ev_neqS,ev_bbneq,ev_bbeql,ev_not,Bool.not_true,Bool.not_false,bne_self_eq_false,beq_self_eq_true,s17,e6,z1]
 refine lv_top (es:=yRoute) (flds:=mkFsP yRoute 6 0) (cl:=.k (.int .i64 1)) (s:=23) (p:=60) (n:=1) (mkFs_ok yRoute 0 rfl 6) (by decide) rfl rfl (by omega) rfl rfl hR (by omega) (by omega) fun f=>?_
 simp (implicitDefEqProofs:=false) only [pl_ret,pl_pr,pl_cl,pl_ite,pl_go0,pl_goS,List.map_cons,List.map_nil,ev_k,ev_e,ev_a,List.cons_append,List.nil_append,List.append_assoc,List.getD_cons_zero,List.getD_cons_succ,bind_some',pickN,ifT_b,cond_true,cond_false,decide_true,decide_false,ev_len,ev_lens,ev_scl_i,ev_scl_b,ev_scl_s,ev_lss,ev_leq,ev_gtr,ev_geq,ev_eql,ev_neq,ev_add,ev_sub,ev_eqlS,ev_neqS,ev_bbneq,ev_bbeql,ev_not,Bool.not_true,Bool.not_false,bne_self_eq_false,beq_self_eq_true,s14,s15,s16,s17,s23,e2,f1,f2,a1,e6,e7,z2]
end Go.Proofs.YtiebbbmibbkpcaaGreatC

/- What the functions of the families sz, to, eq do (printed by a program). Conditions: none. -/
import Derived.Test.YtiebbbmibbkpcaaGreatXPR
import Derived.Test.YtiebbbmibbkpcaaGreatKe
namespace Go.Proofs.YtiebbbmibbkpcaaGreatC
set_option linter.unusedVariables false
set_option linter.unusedSimpArgs false
theorem aHg_:SzOk adz_ [.sl [.i .i64,.i .i64,.i .i64,.i .i64]]:=kG_ (S:=aty_) (R:=rounds) rfl
theorem aCn_:SzOk aa0_ [.sl [.i .i64,.i .i64,.i .i64,.b]]:=kG_ (S:=aqg_) (R:=rounds) rfl
theorem azx_:SzOk q1_ [.i .i64,.sl [.i .i64,.i .i64,.i .i64,.i .i64],.sl [.i .i64,.i .i64,.i .i64,.b]]:=by
 intro ts l ht h_0 h_1
 obtain ⟨_,_,rfl,⟨x0,rfl,w0⟩,t1,_,rfl,h1,t2,_,rfl,h2,rfl⟩:=yg_ ht
 have s72:arv_ 72=adz_:=rfl
 have s73:arv_ 73=aa0_:=rfl
 obtain ⟨n0,e0,b0,c0⟩:=aHg_ [t1] l (zP_ (show WTsU [.sl [.i .i64,.i .i64,.i .i64,.i .i64]] _ from ⟨_,_,rfl,h1,rfl⟩)) (by omega) (by omega)
 simp only [List.cons_append,List.nil_append,zb_,zd_,zh_,zk_,zl_,zs_,Nat.add_zero,Nat.zero_add] at e0 c0
 by_cases g0:n0 < 0
 ·exact ⟨-1,by simp (implicitDefEqProofs:=false) only [q1_,p_szNet,pb,zK_,s72,s73,e0,g0],by omega,by omega⟩
 obtain ⟨n1,e1,b1,c1⟩:=aCn_ [t2] n0 (zP_ (show WTsU [.sl [.i .i64,.i .i64,.i .i64,.b]] _ from ⟨_,_,rfl,h2,rfl⟩)) (by omega) (by omega)
 simp only [List.cons_append,List.nil_append,zb_,zd_,zh_,zk_,zl_,zs_,Nat.add_zero,Nat.zero_add] at e1 c1
 by_cases g1:n1 < 0
 ·exact ⟨-1,by simp (implicitDefEqProofs:=false) only [q1_,p_szNet,pb,zK_,s72,s73,e0,e1,g0,g1],by omega,by omega⟩
 refine ⟨n1,by simp (implicitDefEqProofs:=false) only [q1_,p_szNet,pb,zK_,s72,s73,e0,e1,g0,g1],by omega,fun _=>?_⟩
 simp (implicitDefEqProofs:=false) only [zb_,zd_,zh_,zk_,zl_,zs_,Nat.add_zero,Nat.zero_add]
 have:=c0 (by omega)
 have:=c1 (by omega)
 omega
theorem akc_:SzOk qh_ [.sl [.i .i64]]:=kG_ (S:=aw0_) (R:=rounds) rfl
theorem aJf_:SzOk aed_ [.sl [.i .i64,.i .i64]]:=kG_ (S:=as7_) (R:=rounds) rfl
theorem aD7_:SzOk km_ [.i .i64,.i .i64,.i .i64,.i .i64,.i .i64,.sl [.i .i64,.i .i64],.i .i64,.b]:=by
 intro ts l ht h_0 h_1
 obtain ⟨_,_,rfl,⟨x0,rfl,w0⟩,_,_,rfl,⟨x1,rfl,w1⟩,_,_,rfl,⟨x2,rfl,w2⟩,_,_,rfl,⟨x3,rfl,w3⟩,_,_,rfl,⟨x4,rfl,w4⟩,t5,_,rfl,h5,_,_,rfl,⟨x6,rfl,w6⟩,_,_,rfl,⟨x7,rfl⟩,rfl⟩:=yg_ ht
 have s258:apo_ 258=aed_:=rfl
 obtain ⟨n0,e0,b0,c0⟩:=aJf_ [t5] l (zP_ (show WTsU [.sl [.i .i64,.i .i64]] _ from ⟨_,_,rfl,h5,rfl⟩)) (by omega) (by omega)
 simp only [List.cons_append,List.nil_append,zb_,zd_,zh_,zk_,zl_,zs_,Nat.add_zero,Nat.zero_add] at e0 c0
 by_cases g0:n0 < 0
 ·exact ⟨-1,by simp (implicitDefEqProofs:=false) only [km_,p_szRecord,pb,zK_,s258,e0,g0],by omega,by omega⟩
 refine ⟨n0,by simp (implicitDefEqProofs:=false) only [km_,p_szRecord,pb,zK_,s258,e0,g0],by omega,fun _=>?_⟩
 simp (implicitDefEqProofs:=false) only [zb_,zd_,zh_,zk_,zl_,zs_,Nat.add_zero,Nat.zero_add]
 have:=c0 (by omega)
 omega
theorem ac2_:SzOk vc_ [.sl [.i .i64,.i .i64,.i .i64,.i .i64,.i .i64,.sl [.i .i64,.i .i64],.i .i64,.b]]:=an0_ (S:=ana_) (w:=8) (g:=194) rfl aD7_
theorem aOr_:SzOk qv_ [.i .i64,.i .i64,.i .i64,.sl [.i .i64,.i .i64,.i .i64,.i .i64],.sl [.i .i64,.i .i64,.i .i64,.b],.sl [.i .i64],.sl [.i .i64,.i .i64,.i .i64,.i .i64,.i .i64,.sl [.i .i64,.i .i64],.i .i64,.b]]:=by
 intro ts l ht h_0 h_1
 obtain ⟨_,_,rfl,⟨x0,rfl,w0⟩,_,_,rfl,⟨x1,rfl,w1⟩,_,_,rfl,⟨x2,rfl,w2⟩,t3,_,rfl,h3,t4,_,rfl,h4,t5,_,rfl,h5,t6,_,rfl,h6,rfl⟩:=yg_ ht
 have s12:aif_ 12=q1_:=rfl
 have s97:aif_ 97=qh_:=rfl
 have s98:aif_ 98=vc_:=rfl
 obtain ⟨n0,e0,b0,c0⟩:=azx_ [.c (.int .i64 x2),t3,t4] l (zP_ (show WTsU [.i .i64,.sl [.i .i64,.i .i64,.i .i64,.i .i64],.sl [.i .i64,.i .i64,.i .i64,.b]] _ from ⟨_,_,rfl,⟨_,rfl,w2⟩,_,_,rfl,h3,_,_,rfl,h4,rfl⟩)) (by omega) (by omega)
 simp only [List.cons_append,List.nil_append,zb_,zd_,zh_,zk_,zl_,zs_,Nat.add_zero,Nat.zero_add] at e0 c0
 by_cases g0:n0 < 0
 ·exact ⟨-1,by simp (implicitDefEqProofs:=false) only [qv_,p_szSelf,pb,zK_,s12,s97,s98,e0,g0],by omega,by omega⟩
 obtain ⟨n1,e1,b1,c1⟩:=akc_ [t5] n0 (zP_ (show WTsU [.sl [.i .i64]] _ from ⟨_,_,rfl,h5,rfl⟩)) (by omega) (by omega)
 simp only [List.cons_append,List.nil_append,zb_,zd_,zh_,zk_,zl_,zs_,Nat.add_zero,Nat.zero_add] at e1 c1
 by_cases g1:n1 < 0
 ·exact ⟨-1,by simp (implicitDefEqProofs:=false) only [qv_,p_szSelf,pb,zK_,s12,s97,s98,e0,e1,g0,g1],by omega,by omega⟩
 obtain ⟨n2,e2,b2,c2⟩:=ac2_ [t6] n1 (zP_ (show WTsU [.sl [.i .i64,.i .i64,.i .i64,.i .i64,.i .i64,.sl [.i .i64,.i .i64],.i .i64,.b]] _ from ⟨_,_,rfl,h6,rfl⟩)) (by omega) (by omega)
 simp only [List.cons_append,List.nil_append,zb_,zd_,zh_,zk_,zl_,zs_,Nat.add_zero,Nat.zero_add] at e2 c2
 by_cases g2:n2 < 0
 ·exact ⟨-1,by simp (implicitDefEqProofs:=false) only [qv_,p_szSelf,pb,zK_,s12,s97,s98,e0,e1,e2,g0,g1,g2],by omega,by omega⟩
 refine ⟨n2,by simp (implicitDefEqProofs:=false) only [qv_,p_szSelf,pb,zK_,s12,s97,s98,e0,e1,e2,g0,g1,g2],by omega,fun _=>?_⟩
 simp (implicitDefEqProofs:=false) only [zb_,zd_,zh_,zk_,zl_,zs_,Nat.add_zero,Nat.zero_add]
 have:=c0 (by omega)
 have:=c1 (by omega)
 have:=c2 (by omega)
 omega
theorem aMn_:SzOk ai9_ [.sl [.i .i64,.i .i64,.i .i64,.b]]:=kG_ (S:=aAl_) (R:=rounds) rfl
theorem aL6_:SzOk kN_ [.i .i64,.i .i64,.i .i64,.sl [.i .i64,.i .i64,.i .i64,.i .i64],.sl [.i .i64,.i .i64,.i .i64,.b],.sl [.i .i64],.sl [.i .i64,.i .i64,.i .i64,.i .i64,.i .i64,.sl [.i .i64,.i .i64],.i .i64,.b],.sl [.i .i64,.i .i64,.i .i64,.b]]:=by
 intro ts l ht h_0 h_1
 obtain ⟨_,_,rfl,⟨x0,rfl,w0⟩,_,_,rfl,⟨x1,rfl,w1⟩,_,_,rfl,⟨x2,rfl,w2⟩,t3,_,rfl,h3,t4,_,rfl,h4,t5,_,rfl,h5,t6,_,rfl,h6,t7,_,rfl,h7,rfl⟩:=yg_ ht
 have s30:ani_ 30=qv_:=rfl
 have s91:ani_ 91=ai9_:=rfl
 obtain ⟨n0,e0,b0,c0⟩:=aOr_ [.c (.int .i64 x0),.c (.int .i64 x1),.c (.int .i64 x2),t3,t4,t5,t6] l (zP_ (show WTsU [.i .i64,.i .i64,.i .i64,.sl [.i .i64,.i .i64,.i .i64,.i .i64],.sl [.i .i64,.i .i64,.i .i64,.b],.sl [.i .i64],.sl [.i .i64,.i .i64,.i .i64,.i .i64,.i .i64,.sl [.i .i64,.i .i64],.i .i64,.b]] _ from ⟨_,_,rfl,⟨_,rfl,w0⟩,_,_,rfl,⟨_,rfl,w1⟩,_,_,rfl,⟨_,rfl,w2⟩,_,_,rfl,h3,_,_,rfl,h4,_,_,rfl,h5,_,_,rfl,h6,rfl⟩)) (by omega) (by omega)
 simp only [List.cons_append,List.nil_append,zb_,zd_,zh_,zk_,zl_,zs_,Nat.add_zero,Nat.zero_add] at e0 c0
 by_cases g0:n0 < 0
 ·exact ⟨-1,by simp (implicitDefEqProofs:=false) only [kN_,p_szNode,pb,zK_,s30,s91,e0,g0],by omega,by omega⟩
 obtain ⟨n1,e1,b1,c1⟩:=aMn_ [t7] n0 (zP_ (show WTsU [.sl [.i .i64,.i .i64,.i .i64,.b]] _ from ⟨_,_,rfl,h7,rfl⟩)) (by omega) (by omega)
 simp only [List.cons_append,List.nil_append,zb_,zd_,zh_,zk_,zl_,zs_,Nat.add_zero,Nat.zero_add] at e1 c1
 by_cases g1:n1 < 0
 ·exact ⟨-1,by simp (implicitDefEqProofs:=false) only [kN_,p_szNode,pb,zK_,s30,s91,e0,e1,g0,g1],by omega,by omega⟩
 refine ⟨n1,by simp (implicitDefEqProofs:=false) only [kN_,p_szNode,pb,zK_,s30,s91,e0,e1,g0,g1],by omega,fun _=>?_⟩
 simp (implicitDefEqProofs:=false) only [zb_,zd_,zh_,zk_,zl_,zs_,Nat.add_zero,Nat.zero_add]
 have:=c0 (by omega)
 have:=c1 (by omega)
 omega
theorem aOx_:ToOk agj_ [.i .i64,.i .i64,.i .i64,.i .i64]:=by
 intro ts ht hb
 obtain ⟨_,_,rfl,⟨x0,rfl,w0⟩,_,_,rfl,⟨x1,rfl,w1⟩,_,_,rfl,⟨x2,rfl,w2⟩,_,_,rfl,⟨x3,rfl,w3⟩,rfl⟩:=yg_ ht
 simp (implicitDefEqProofs:=false) only [zb_,zd_,zh_,zk_,zl_,zs_,Nat.add_zero,Nat.zero_add] at hb
 simp (implicitDefEqProofs:=false) only [agj_,p_toLink,pb,zK_]
theorem aG6_:ToOk adc_ [.sl [.i .i64,.i .i64,.i .i64,.i .i64]]:=jK_ (S:=atl_) (w:=4) (g:=179) (zs:=[.k (.int .i64 0),.k (.int .i64 0),.k (.int .i64 0),.k (.int .i64 0)]) (st:=.put true 4 0 4) rfl aOx_ rfl rfl (fun xs i z vs=>aqm_ (fs:=[.i .i64,.i .i64,.i .i64,.i .i64]) (w:=4) rfl rfl xs i z vs)
theorem aHu_:ToOk aef_ [.i .i64,.i .i64,.i .i64,.b]:=by
 intro ts ht hb
 obtain ⟨_,_,rfl,⟨x0,rfl,w0⟩,_,_,rfl,⟨x1,rfl,w1⟩,_,_,rfl,⟨x2,rfl,w2⟩,_,_,rfl,⟨x3,rfl⟩,rfl⟩:=yg_ ht
 simp (implicitDefEqProofs:=false) only [zb_,zd_,zh_,zk_,zl_,zs_,Nat.add_zero,Nat.zero_add] at hb
 simp (implicitDefEqProofs:=false) only [aef_,p_toThing,pb,zK_]
theorem aBj_:ToOk aba_ [.sl [.i .i64,.i .i64,.i .i64,.b]]:=jK_ (S:=aq1_) (w:=4) (g:=180) (zs:=[.k (.int .i64 0),.k (.int .i64 0),.k (.int .i64 0),.k (.bool false)]) (st:=.put true 4 0 4) rfl aHu_ rfl rfl (fun xs i z vs=>aqm_ (fs:=[.i .i64,.i .i64,.i .i64,.b]) (w:=4) rfl rfl xs i z vs)
theorem ax9_:ToOk kL_ [.i .i64,.sl [.i .i64,.i .i64,.i .i64,.i .i64],.sl [.i .i64,.i .i64,.i .i64,.b]]:=by
 intro ts ht hb
 obtain ⟨_,_,rfl,⟨x0,rfl,w0⟩,t1,_,rfl,h1,t2,_,rfl,h2,rfl⟩:=yg_ ht
 simp (implicitDefEqProofs:=false) only [zb_,zd_,zh_,zk_,zl_,zs_,Nat.add_zero,Nat.zero_add] at hb
 have s79:asg_ 79=adc_:=rfl
 have s80:asg_ 80=aba_:=rfl
 have e0:=aG6_ [t1] (zP_ (show WTsU [.sl [.i .i64,.i .i64,.i .i64,.i .i64]] _ from ⟨_,_,rfl,h1,rfl⟩)) (by simp (implicitDefEqProofs:=false) only [zb_,zd_,zh_,zk_,zl_,zs_,Nat.add_zero,Nat.zero_add];omega)
 have e1:=aBj_ [t2] (zP_ (show WTsU [.sl [.i .i64,.i .i64,.i .i64,.b]] _ from ⟨_,_,rfl,h2,rfl⟩)) (by simp (implicitDefEqProofs:=false) only [zb_,zd_,zh_,zk_,zl_,zs_,Nat.add_zero,Nat.zero_add];omega)
 simp (implicitDefEqProofs:=false) only [kL_,p_toNet,pb,zK_,s79,s80,e0,e1]
theorem ake_:ToOk ql_ [.sl [.i .i64]]:=awb_ (S:=azp_) (z:=.k (.int .i64 0)) rfl rfl
theorem aMr_:ToOk ahp_ [.i .i64,.i .i64]:=by
 intro ts ht hb
 obtain ⟨_,_,rfl,⟨x0,rfl,w0⟩,_,_,rfl,⟨x1,rfl,w1⟩,rfl⟩:=yg_ ht
 simp (implicitDefEqProofs:=false) only [zb_,zd_,zh_,zk_,zl_,zs_,Nat.add_zero,Nat.zero_add] at hb
 simp (implicitDefEqProofs:=false) only [ahp_,p_toNear,pb,zK_]
theorem aKm_:ToOk ad8_ [.sl [.i .i64,.i .i64]]:=jK_ (S:=asz_) (w:=2) (g:=290) (zs:=[.k (.int .i64 0),.k (.int .i64 0)]) (st:=.put true 2 0 2) rfl aMr_ rfl rfl (fun xs i z vs=>aqm_ (fs:=[.i .i64,.i .i64]) (w:=2) rfl rfl xs i z vs)
theorem aDi_:ToOk aa7_ [.i .i64,.i .i64,.i .i64,.i .i64,.i .i64,.sl [.i .i64,.i .i64],.i .i64,.b]:=by
 intro ts ht hb
 obtain ⟨_,_,rfl,⟨x0,rfl,w0⟩,_,_,rfl,⟨x1,rfl,w1⟩,_,_,rfl,⟨x2,rfl,w2⟩,_,_,rfl,⟨x3,rfl,w3⟩,_,_,rfl,⟨x4,rfl,w4⟩,t5,_,rfl,h5,_,_,rfl,⟨x6,rfl,w6⟩,_,_,rfl,⟨x7,rfl⟩,rfl⟩:=yg_ ht
 simp (implicitDefEqProofs:=false) only [zb_,zd_,zh_,zk_,zl_,zs_,Nat.add_zero,Nat.zero_add] at hb
 have s259:ap2_ 259=ad8_:=rfl
 have e0:=aKm_ [t5] (zP_ (show WTsU [.sl [.i .i64,.i .i64]] _ from ⟨_,_,rfl,h5,rfl⟩)) (by simp (implicitDefEqProofs:=false) only [zb_,zd_,zh_,zk_,zl_,zs_,Nat.add_zero,Nat.zero_add];omega)
 simp (implicitDefEqProofs:=false) only [aa7_,p_toRecord,pb,zK_,s259,e0]
theorem ac9_:ToOk vd_ [.sl [.i .i64,.i .i64,.i .i64,.i .i64,.i .i64,.sl [.i .i64,.i .i64],.i .i64,.b]]:=jK_ (S:=amz_) (w:=8) (g:=200) (zs:=[.k (.int .i64 0),.k (.int .i64 0),.k (.int .i64 0),.k (.int .i64 0),.k (.int .i64 0),.e,.k (.int .i64 0),.k (.bool false)]) (st:=.putD [true,true,true,true,true,false,true,true] 8 0) rfl aDi_ rfl rfl (fun xs i z vs=>arw_ (fs:=[.i .i64,.i .i64,.i .i64,.i .i64,.i .i64,.sl [.i .i64,.i .i64],.i .i64,.b]) (w:=8) rfl rfl xs i z vs)
theorem aL3_:ToOk acq_ [.i .i64,.i .i64,.i .i64,.sl [.i .i64,.i .i64,.i .i64,.i .i64],.sl [.i .i64,.i .i64,.i .i64,.b],.sl [.i .i64],.sl [.i .i64,.i .i64,.i .i64,.i .i64,.i .i64,.sl [.i .i64,.i .i64],.i .i64,.b]]:=by
 intro ts ht hb
 obtain ⟨_,_,rfl,⟨x0,rfl,w0⟩,_,_,rfl,⟨x1,rfl,w1⟩,_,_,rfl,⟨x2,rfl,w2⟩,t3,_,rfl,h3,t4,_,rfl,h4,t5,_,rfl,h5,t6,_,rfl,h6,rfl⟩:=yg_ ht
 simp (implicitDefEqProofs:=false) only [zb_,zd_,zh_,zk_,zl_,zs_,Nat.add_zero,Nat.zero_add] at hb
 have s14:aja_ 14=kL_:=rfl
 have s111:aja_ 111=ql_:=rfl
 have s112:aja_ 112=vd_:=rfl
 have e0:=ax9_ [.c (.int .i64 x2),t3,t4] (zP_ (show WTsU [.i .i64,.sl [.i .i64,.i .i64,.i .i64,.i .i64],.sl [.i .i64,.i .i64,.i .i64,.b]] _ from ⟨_,_,rfl,⟨_,rfl,w2⟩,_,_,rfl,h3,_,_,rfl,h4,rfl⟩)) (by simp (implicitDefEqProofs:=false) only [zb_,zd_,zh_,zk_,zl_,zs_,Nat.add_zero,Nat.zero_add];omega)
 have e1:=ake_ [t5] (zP_ (show WTsU [.sl [.i .i64]] _ from ⟨_,_,rfl,h5,rfl⟩)) (by simp (implicitDefEqProofs:=false) only [zb_,zd_,zh_,zk_,zl_,zs_,Nat.add_zero,Nat.zero_add];omega)
 have e2:=ac9_ [t6] (zP_ (show WTsU [.sl [.i .i64,.i .i64,.i .i64,.i .i64,.i .i64,.sl [.i .i64,.i .i64],.i .i64,.b]] _ from ⟨_,_,rfl,h6,rfl⟩)) (by simp (implicitDefEqProofs:=false) only [zb_,zd_,zh_,zk_,zl_,zs_,Nat.add_zero,Nat.zero_add];omega)
 simp (implicitDefEqProofs:=false) only [acq_,p_toSelf,pb,zK_,s14,s111,s112,e0,e1,e2]
theorem aPm_:ToOk alw_ [.i .i64,.i .i64,.i .i64,.b]:=by
 intro ts ht hb
 obtain ⟨_,_,rfl,⟨x0,rfl,w0⟩,_,_,rfl,⟨x1,rfl,w1⟩,_,_,rfl,⟨x2,rfl,w2⟩,_,_,rfl,⟨x3,rfl⟩,rfl⟩:=yg_ ht
 simp (implicitDefEqProofs:=false) only [zb_,zd_,zh_,zk_,zl_,zs_,Nat.add_zero,Nat.zero_add] at hb
 simp (implicitDefEqProofs:=false) only [alw_,p_toEar,pb,zK_]
theorem aL2_:ToOk agt_ [.sl [.i .i64,.i .i64,.i .i64,.b]]:=jK_ (S:=axf_) (w:=4) (g:=191) (zs:=[.k (.int .i64 0),.k (.int .i64 0),.k (.int .i64 0),.k (.bool false)]) (st:=.put true 4 0 4) rfl aPm_ rfl rfl (fun xs i z vs=>aqm_ (fs:=[.i .i64,.i .i64,.i .i64,.b]) (w:=4) rfl rfl xs i z vs)
theorem aNy_:ToOk aix_ [.i .i64,.i .i64,.i .i64,.sl [.i .i64,.i .i64,.i .i64,.i .i64],.sl [.i .i64,.i .i64,.i .i64,.b],.sl [.i .i64],.sl [.i .i64,.i .i64,.i .i64,.i .i64,.i .i64,.sl [.i .i64,.i .i64],.i .i64,.b],.sl [.i .i64,.i .i64,.i .i64,.b]]:=by
 intro ts ht hb
 obtain ⟨_,_,rfl,⟨x0,rfl,w0⟩,_,_,rfl,⟨x1,rfl,w1⟩,_,_,rfl,⟨x2,rfl,w2⟩,t3,_,rfl,h3,t4,_,rfl,h4,t5,_,rfl,h5,t6,_,rfl,h6,t7,_,rfl,h7,rfl⟩:=yg_ ht
 simp (implicitDefEqProofs:=false) only [zb_,zd_,zh_,zk_,zl_,zs_,Nat.add_zero,Nat.zero_add] at hb
 have s32:an7_ 32=acq_:=rfl
 have s93:an7_ 93=agt_:=rfl
 have e0:=aL3_ [.c (.int .i64 x0),.c (.int .i64 x1),.c (.int .i64 x2),t3,t4,t5,t6] (zP_ (show WTsU [.i .i64,.i .i64,.i .i64,.sl [.i .i64,.i .i64,.i .i64,.i .i64],.sl [.i .i64,.i .i64,.i .i64,.b],.sl [.i .i64],.sl [.i .i64,.i .i64,.i .i64,.i .i64,.i .i64,.sl [.i .i64,.i .i64],.i .i64,.b]] _ from ⟨_,_,rfl,⟨_,rfl,w0⟩,_,_,rfl,⟨_,rfl,w1⟩,_,_,rfl,⟨_,rfl,w2⟩,_,_,rfl,h3,_,_,rfl,h4,_,_,rfl,h5,_,_,rfl,h6,rfl⟩)) (by simp (implicitDefEqProofs:=false) only [zb_,zd_,zh_,zk_,zl_,zs_,Nat.add_zero,Nat.zero_add];omega)
 have e1:=aL2_ [t7] (zP_ (show WTsU [.sl [.i .i64,.i .i64,.i .i64,.b]] _ from ⟨_,_,rfl,h7,rfl⟩)) (by simp (implicitDefEqProofs:=false) only [zb_,zd_,zh_,zk_,zl_,zs_,Nat.add_zero,Nat.zero_add];omega)
 simp (implicitDefEqProofs:=false) only [aix_,p_toNode,pb,zK_,s32,s93,e0,e1]
theorem ak3_:EqOk qz_ [.sl [.i .i64]]:=azn_ (S:=aAa_) (op:=.bin .neq) aVy_
theorem aK6_:EqOk aih_ [.i .i64,.i .i64,.i .i64,.i .i64]:=by
 intro ts ht hb
 obtain ⟨_,_,rfl,⟨x0,rfl,w0⟩,_,_,rfl,⟨x1,rfl,w1⟩,_,_,rfl,⟨x2,rfl,w2⟩,_,_,rfl,⟨x3,rfl,w3⟩,rfl⟩:=yg_ ht
 simp (implicitDefEqProofs:=false) only [zb_,zd_,zh_,zk_,zl_,zs_,Nat.add_zero,Nat.zero_add] at hb
 simp (implicitDefEqProofs:=false) only [aih_,p_eqLink,pb,zK_]
theorem aHy_:EqOk adq_ [.sl [.i .i64,.i .i64,.i .i64,.i .i64]]:=jQ_ (S:=ati_) (w:=4) (g:=188) rfl aK6_
theorem aH8_:EqOk adl_ [.i .i64,.i .i64,.i .i64,.b]:=by
 intro ts ht hb
 obtain ⟨_,_,rfl,⟨x0,rfl,w0⟩,_,_,rfl,⟨x1,rfl,w1⟩,_,_,rfl,⟨x2,rfl,w2⟩,_,_,rfl,⟨x3,rfl⟩,rfl⟩:=yg_ ht
 simp (implicitDefEqProofs:=false) only [zb_,zd_,zh_,zk_,zl_,zs_,Nat.add_zero,Nat.zero_add] at hb
 simp (implicitDefEqProofs:=false) only [adl_,p_eqThing,pb,zK_]
theorem aD3_:EqOk abf_ [.sl [.i .i64,.i .i64,.i .i64,.b]]:=jQ_ (S:=ao9_) (w:=4) (g:=189) rfl aH8_
theorem aye_:EqOk kH_ [.i .i64,.sl [.i .i64,.i .i64,.i .i64,.i .i64],.sl [.i .i64,.i .i64,.i .i64,.b]]:=by
 intro ts ht hb
 obtain ⟨_,_,rfl,⟨x0,rfl,w0⟩,t1,_,rfl,h1,t2,_,rfl,h2,rfl⟩:=yg_ ht
 simp (implicitDefEqProofs:=false) only [zb_,zd_,zh_,zk_,zl_,zs_,Nat.add_zero,Nat.zero_add] at hb
 have s87:arj_ 87=adq_:=rfl
 have s88:arj_ 88=abf_:=rfl
 have e0:=aHy_ [t1] (zP_ (show WTsU [.sl [.i .i64,.i .i64,.i .i64,.i .i64]] _ from ⟨_,_,rfl,h1,rfl⟩)) (by simp (implicitDefEqProofs:=false) only [zb_,zd_,zh_,zk_,zl_,zs_,Nat.add_zero,Nat.zero_add];omega)
 simp only [List.cons_append,List.nil_append] at e0
 have e1:=aD3_ [t2] (zP_ (show WTsU [.sl [.i .i64,.i .i64,.i .i64,.b]] _ from ⟨_,_,rfl,h2,rfl⟩)) (by simp (implicitDefEqProofs:=false) only [zb_,zd_,zh_,zk_,zl_,zs_,Nat.add_zero,Nat.zero_add];omega)
 simp only [List.cons_append,List.nil_append] at e1
 simp (implicitDefEqProofs:=false) only [kH_,p_eqNet,pb,zK_,s87,s88,e0,e1]
theorem aOj_:EqOk ag4_ [.i .i64,.i .i64]:=by
 intro ts ht hb
 obtain ⟨_,_,rfl,⟨x0,rfl,w0⟩,_,_,rfl,⟨x1,rfl,w1⟩,rfl⟩:=yg_ ht
 simp (implicitDefEqProofs:=false) only [zb_,zd_,zh_,zk_,zl_,zs_,Nat.add_zero,Nat.zero_add] at hb
 simp (implicitDefEqProofs:=false) only [ag4_,p_eqNear,pb,zK_]
theorem aG7_:EqOk ady_ [.sl [.i .i64,.i .i64]]:=jQ_ (S:=as9_) (w:=2) (g:=263) rfl aOj_
theorem aDq_:EqOk abd_ [.i .i64,.i .i64,.i .i64,.i .i64,.i .i64,.sl [.i .i64,.i .i64],.i .i64,.b]:=by
 intro ts ht hb
 obtain ⟨_,_,rfl,⟨x0,rfl,w0⟩,_,_,rfl,⟨x1,rfl,w1⟩,_,_,rfl,⟨x2,rfl,w2⟩,_,_,rfl,⟨x3,rfl,w3⟩,_,_,rfl,⟨x4,rfl,w4⟩,t5,_,rfl,h5,_,_,rfl,⟨x6,rfl,w6⟩,_,_,rfl,⟨x7,rfl⟩,rfl⟩:=yg_ ht
 simp (implicitDefEqProofs:=false) only [zb_,zd_,zh_,zk_,zl_,zs_,Nat.add_zero,Nat.zero_add] at hb
 have s211:aqn_ 211=ady_:=rfl
 have e0:=aG7_ [t5] (zP_ (show WTsU [.sl [.i .i64,.i .i64]] _ from ⟨_,_,rfl,h5,rfl⟩)) (by simp (implicitDefEqProofs:=false) only [zb_,zd_,zh_,zk_,zl_,zs_,Nat.add_zero,Nat.zero_add];omega)
 simp only [List.cons_append,List.nil_append] at e0
 simp (implicitDefEqProofs:=false) only [abd_,p_eqRecord,pb,zK_,s211,e0]
theorem abx_:EqOk ve_ [.sl [.i .i64,.i .i64,.i .i64,.i .i64,.i .i64,.sl [.i .i64,.i .i64],.i .i64,.b]]:=jQ_ (S:=amw_) (w:=8) (g:=118) rfl aDq_
theorem aM2_:EqOk acf_ [.i .i64,.i .i64,.i .i64,.sl [.i .i64,.i .i64,.i .i64,.i .i64],.sl [.i .i64,.i .i64,.i .i64,.b],.sl [.i .i64],.sl [.i .i64,.i .i64,.i .i64,.i .i64,.i .i64,.sl [.i .i64,.i .i64],.i .i64,.b]]:=by
 intro ts ht hb
 obtain ⟨_,_,rfl,⟨x0,rfl,w0⟩,_,_,rfl,⟨x1,rfl,w1⟩,_,_,rfl,⟨x2,rfl,w2⟩,t3,_,rfl,h3,t4,_,rfl,h4,t5,_,rfl,h5,t6,_,rfl,h6,rfl⟩:=yg_ ht
 simp (implicitDefEqProofs:=false) only [zb_,zd_,zh_,zk_,zl_,zs_,Nat.add_zero,Nat.zero_add] at hb
 have s18:ahh_ 18=kH_:=rfl
 have s35:ahh_ 35=ve_:=rfl
 have s67:ahh_ 67=qz_:=rfl
 have e0:=aye_ [.c (.int .i64 x2),t3,t4] (zP_ (show WTsU [.i .i64,.sl [.i .i64,.i .i64,.i .i64,.i .i64],.sl [.i .i64,.i .i64,.i .i64,.b]] _ from ⟨_,_,rfl,⟨_,rfl,w2⟩,_,_,rfl,h3,_,_,rfl,h4,rfl⟩)) (by simp (implicitDefEqProofs:=false) only [zb_,zd_,zh_,zk_,zl_,zs_,Nat.add_zero,Nat.zero_add];omega)
 simp only [List.cons_append,List.nil_append] at e0
 have e1:=ak3_ [t5] (zP_ (show WTsU [.sl [.i .i64]] _ from ⟨_,_,rfl,h5,rfl⟩)) (by simp (implicitDefEqProofs:=false) only [zb_,zd_,zh_,zk_,zl_,zs_,Nat.add_zero,Nat.zero_add];omega)
 simp only [List.cons_append,List.nil_append] at e1
 have e2:=abx_ [t6] (zP_ (show WTsU [.sl [.i .i64,.i .i64,.i .i64,.i .i64,.i .i64,.sl [.i .i64,.i .i64],.i .i64,.b]] _ from ⟨_,_,rfl,h6,rfl⟩)) (by simp (implicitDefEqProofs:=false) only [zb_,zd_,zh_,zk_,zl_,zs_,Nat.add_zero,Nat.zero_add];omega)
 simp only [List.cons_append,List.nil_append] at e2
 simp (implicitDefEqProofs:=false) only [acf_,p_eqSelf,pb,zK_,s18,s35,s67,e0,e1,e2]
theorem aPb_:EqOk al6_ [.i .i64,.i .i64,.i .i64,.b]:=by
 intro ts ht hb
 obtain ⟨_,_,rfl,⟨x0,rfl,w0⟩,_,_,rfl,⟨x1,rfl,w1⟩,_,_,rfl,⟨x2,rfl,w2⟩,_,_,rfl,⟨x3,rfl⟩,rfl⟩:=yg_ ht
 simp (implicitDefEqProofs:=false) only [zb_,zd_,zh_,zk_,zl_,zs_,Nat.add_zero,Nat.zero_add] at hb
 simp (implicitDefEqProofs:=false) only [al6_,p_eqEar,pb,zK_]
theorem aN3_:EqOk ahs_ [.sl [.i .i64,.i .i64,.i .i64,.b]]:=jQ_ (S:=axa_) (w:=4) (g:=193) rfl aPb_
theorem aMm_:EqOk agx_ [.i .i64,.i .i64,.i .i64,.sl [.i .i64,.i .i64,.i .i64,.i .i64],.sl [.i .i64,.i .i64,.i .i64,.b],.sl [.i .i64],.sl [.i .i64,.i .i64,.i .i64,.i .i64,.i .i64,.sl [.i .i64,.i .i64],.i .i64,.b],.sl [.i .i64,.i .i64,.i .i64,.b]]:=by
 intro ts ht hb
 obtain ⟨_,_,rfl,⟨x0,rfl,w0⟩,_,_,rfl,⟨x1,rfl,w1⟩,_,_,rfl,⟨x2,rfl,w2⟩,t3,_,rfl,h3,t4,_,rfl,h4,t5,_,rfl,h5,t6,_,rfl,h6,t7,_,rfl,h7,rfl⟩:=yg_ ht
 simp (implicitDefEqProofs:=false) only [zb_,zd_,zh_,zk_,zl_,zs_,Nat.add_zero,Nat.zero_add] at hb
 have s34:anm_ 34=acf_:=rfl
 have s95:anm_ 95=ahs_:=rfl
 have e0:=aM2_ [.c (.int .i64 x0),.c (.int .i64 x1),.c (.int .i64 x2),t3,t4,t5,t6] (zP_ (show WTsU [.i .i64,.i .i64,.i .i64,.sl [.i .i64,.i .i64,.i .i64,.i .i64],.sl [.i .i64,.i .i64,.i .i64,.b],.sl [.i .i64],.sl [.i .i64,.i .i64,.i .i64,.i .i64,.i .i64,.sl [.i .i64,.i .i64],.i .i64,.b]] _ from ⟨_,_,rfl,⟨_,rfl,w0⟩,_,_,rfl,⟨_,rfl,w1⟩,_,_,rfl,⟨_,rfl,w2⟩,_,_,rfl,h3,_,_,rfl,h4,_,_,rfl,h5,_,_,rfl,h6,rfl⟩)) (by simp (implicitDefEqProofs:=false) only [zb_,zd_,zh_,zk_,zl_,zs_,Nat.add_zero,Nat.zero_add];omega)
 simp only [List.cons_append,List.nil_append] at e0
 have e1:=aN3_ [t7] (zP_ (show WTsU [.sl [.i .i64,.i .i64,.i .i64,.b]] _ from ⟨_,_,rfl,h7,rfl⟩)) (by simp (implicitDefEqProofs:=false) only [zb_,zd_,zh_,zk_,zl_,zs_,Nat.add_zero,Nat.zero_add];omega)
 simp only [List.cons_append,List.nil_append] at e1
 simp (implicitDefEqProofs:=false) only [agx_,p_eqNode,pb,zK_,s34,s95,e0,e1]
theorem apc_:ToOk add_ [.sl [.b]]:=awb_ (S:=atw_) (z:=.k (.bool false)) rfl rfl
theorem ap0_:EqOk adr_ [.sl [.b]]:=azn_ (S:=atx_) (op:=.bb .neq) aVl_
theorem aqp_:SzOk adf_ [.sl [.b]]:=kG_ (S:=atk_) (R:=rounds) rfl
theorem aGd_:SzOk ada_ [.sl [.i .i64,.i .i64,.i .i64,.sl [.i .i64,.i .i64,.i .i64,.i .i64],.sl [.i .i64,.i .i64,.i .i64,.b],.sl [.i .i64],.sl [.i .i64,.i .i64,.i .i64,.i .i64,.i .i64,.sl [.i .i64,.i .i64],.i .i64,.b],.sl [.i .i64,.i .i64,.i .i64,.b]]]:=an0_ (S:=as1_) (w:=8) (g:=24) rfl aL6_
theorem aDh_:SzOk qW_ [.i .i64,.i .i64,.i .i64,.i .i64,.sl [.i .i64],.sl [.i .i64,.i .i64,.i .i64,.i .i64,.i .i64,.sl [.i .i64,.i .i64],.i .i64,.b]]:=by
 intro ts l ht h_0 h_1
 obtain ⟨_,_,rfl,⟨x0,rfl,w0⟩,_,_,rfl,⟨x1,rfl,w1⟩,_,_,rfl,⟨x2,rfl,w2⟩,_,_,rfl,⟨x3,rfl,w3⟩,t4,_,rfl,h4,t5,_,rfl,h5,rfl⟩:=yg_ ht
 have s97:air_ 97=qh_:=rfl
 have s98:air_ 98=vc_:=rfl
 obtain ⟨n0,e0,b0,c0⟩:=akc_ [t4] l (zP_ (show WTsU [.sl [.i .i64]] _ from ⟨_,_,rfl,h4,rfl⟩)) (by omega) (by omega)
 simp only [List.cons_append,List.nil_append,zb_,zd_,zh_,zk_,zl_,zs_,Nat.add_zero,Nat.zero_add] at e0 c0
 by_cases g0:n0 < 0
 ·exact ⟨-1,by simp (implicitDefEqProofs:=false) only [qW_,p_szPacket,pb,zK_,s97,s98,e0,g0],by omega,by omega⟩
 obtain ⟨n1,e1,b1,c1⟩:=ac2_ [t5] n0 (zP_ (show WTsU [.sl [.i .i64,.i .i64,.i .i64,.i .i64,.i .i64,.sl [.i .i64,.i .i64],.i .i64,.b]] _ from ⟨_,_,rfl,h5,rfl⟩)) (by omega) (by omega)
 simp only [List.cons_append,List.nil_append,zb_,zd_,zh_,zk_,zl_,zs_,Nat.add_zero,Nat.zero_add] at e1 c1
 by_cases g1:n1 < 0
 ·exact ⟨-1,by simp (implicitDefEqProofs:=false) only [qW_,p_szPacket,pb,zK_,s97,s98,e0,e1,g0,g1],by omega,by omega⟩
 refine ⟨n1,by simp (implicitDefEqProofs:=false) only [qW_,p_szPacket,pb,zK_,s97,s98,e0,e1,g0,g1],by omega,fun _=>?_⟩
 simp (implicitDefEqProofs:=false) only [zb_,zd_,zh_,zk_,zl_,zs_,Nat.add_zero,Nat.zero_add]
 have:=c0 (by omega)
 have:=c1 (by omega)
 omega
theorem axp_:SzOk k0_ [.sl [.i .i64,.i .i64,.i .i64,.i .i64,.sl [.i .i64],.sl [.i .i64,.i .i64,.i .i64,.i .i64,.i .i64,.sl [.i .i64,.i .i64],.i .i64,.b]]]:=an0_ (S:=am1_) (w:=6) (g:=57) rfl aDh_
theorem aKb_:SzOk wm_ [.i .i64,.sl [.i .i64,.i .i64,.i .i64,.i .i64],.sl [.i .i64,.i .i64,.i .i64,.b],.sl [.b],.sl [.b],.sl [.i .i64],.sl [.i .i64,.i .i64,.i .i64,.sl [.i .i64,.i .i64,.i .i64,.i .i64],.sl [.i .i64,.i .i64,.i .i64,.b],.sl [.i .i64],.sl [.i .i64,.i .i64,.i .i64,.i .i64,.i .i64,.sl [.i .i64,.i .i64],.i .i64,.b],.sl [.i .i64,.i .i64,.i .i64,.b]],.sl [.i .i64,.i .i64,.i .i64,.i .i64,.sl [.i .i64],.sl [.i .i64,.i .i64,.i .i64,.i .i64,.i .i64,.sl [.i .i64,.i .i64],.i .i64,.b]],.sl [.i .i64,.i .i64,.i .i64,.i .i64,.i .i64,.sl [.i .i64,.i .i64],.i .i64,.b],.i .i64]:=by
 intro ts l ht h_0 h_1
 obtain ⟨_,_,rfl,⟨x0,rfl,w0⟩,t1,_,rfl,h1,t2,_,rfl,h2,t3,_,rfl,h3,t4,_,rfl,h4,t5,_,rfl,h5,t6,_,rfl,h6,t7,_,rfl,h7,t8,_,rfl,h8,_,_,rfl,⟨x9,rfl,w9⟩,rfl⟩:=yg_ ht
 have s12:qk_ 12=q1_:=rfl
 have s97:qk_ 97=qh_:=rfl
 have s98:qk_ 98=vc_:=rfl
 have s126:qk_ 126=adf_:=rfl
 have s127:qk_ 127=ada_:=rfl
 have s128:qk_ 128=k0_:=rfl
 obtain ⟨n0,e0,b0,c0⟩:=azx_ [.c (.int .i64 x0),t1,t2] l (zP_ (show WTsU [.i .i64,.sl [.i .i64,.i .i64,.i .i64,.i .i64],.sl [.i .i64,.i .i64,.i .i64,.b]] _ from ⟨_,_,rfl,⟨_,rfl,w0⟩,_,_,rfl,h1,_,_,rfl,h2,rfl⟩)) (by omega) (by omega)
 simp only [List.cons_append,List.nil_append,zb_,zd_,zh_,zk_,zl_,zs_,Nat.add_zero,Nat.zero_add] at e0 c0
 by_cases g0:n0 < 0
 ·exact ⟨-1,by simp (implicitDefEqProofs:=false) only [wm_,p_szWorld,pb,zK_,s12,s97,s98,s126,s127,s128,e0,g0],by omega,by omega⟩
 obtain ⟨n1,e1,b1,c1⟩:=aqp_ [t3] n0 (zP_ (show WTsU [.sl [.b]] _ from ⟨_,_,rfl,h3,rfl⟩)) (by omega) (by omega)
 simp only [List.cons_append,List.nil_append,zb_,zd_,zh_,zk_,zl_,zs_,Nat.add_zero,Nat.zero_add] at e1 c1
 by_cases g1:n1 < 0
 ·exact ⟨-1,by simp (implicitDefEqProofs:=false) only [wm_,p_szWorld,pb,zK_,s12,s97,s98,s126,s127,s128,e0,e1,g0,g1],by omega,by omega⟩
 obtain ⟨n2,e2,b2,c2⟩:=aqp_ [t4] n1 (zP_ (show WTsU [.sl [.b]] _ from ⟨_,_,rfl,h4,rfl⟩)) (by omega) (by omega)
 simp only [List.cons_append,List.nil_append,zb_,zd_,zh_,zk_,zl_,zs_,Nat.add_zero,Nat.zero_add] at e2 c2
 by_cases g2:n2 < 0
 ·exact ⟨-1,by simp (implicitDefEqProofs:=false) only [wm_,p_szWorld,pb,zK_,s12,s97,s98,s126,s127,s128,e0,e1,e2,g0,g1,g2],by omega,by omega⟩
 obtain ⟨n3,e3,b3,c3⟩:=akc_ [t5] n2 (zP_ (show WTsU [.sl [.i .i64]] _ from ⟨_,_,rfl,h5,rfl⟩)) (by omega) (by omega)
 simp only [List.cons_append,List.nil_append,zb_,zd_,zh_,zk_,zl_,zs_,Nat.add_zero,Nat.zero_add] at e3 c3
 by_cases g3:n3 < 0
 ·exact ⟨-1,by simp (implicitDefEqProofs:=false) only [wm_,p_szWorld,pb,zK_,s12,s97,s98,s126,s127,s128,e0,e1,e2,e3,g0,g1,g2,g3],by omega,by omega⟩
 obtain ⟨n4,e4,b4,c4⟩:=aGd_ [t6] n3 (zP_ (show WTsU [.sl [.i .i64,.i .i64,.i .i64,.sl [.i .i64,.i .i64,.i .i64,.i .i64],.sl [.i .i64,.i .i64,.i .i64,.b],.sl [.i .i64],.sl [.i .i64,.i .i64,.i .i64,.i .i64,.i .i64,.sl [.i .i64,.i .i64],.i .i64,.b],.sl [.i .i64,.i .i64,.i .i64,.b]]] _ from ⟨_,_,rfl,h6,rfl⟩)) (by omega) (by omega)
 simp only [List.cons_append,List.nil_append,zb_,zd_,zh_,zk_,zl_,zs_,Nat.add_zero,Nat.zero_add] at e4 c4
 by_cases g4:n4 < 0
 ·exact ⟨-1,by simp (implicitDefEqProofs:=false) only [wm_,p_szWorld,pb,zK_,s12,s97,s98,s126,s127,s128,e0,e1,e2,e3,e4,g0,g1,g2,g3,g4],by omega,by omega⟩
 obtain ⟨n5,e5,b5,c5⟩:=axp_ [t7] n4 (zP_ (show WTsU [.sl [.i .i64,.i .i64,.i .i64,.i .i64,.sl [.i .i64],.sl [.i .i64,.i .i64,.i .i64,.i .i64,.i .i64,.sl [.i .i64,.i .i64],.i .i64,.b]]] _ from ⟨_,_,rfl,h7,rfl⟩)) (by omega) (by omega)
 simp only [List.cons_append,List.nil_append,zb_,zd_,zh_,zk_,zl_,zs_,Nat.add_zero,Nat.zero_add] at e5 c5
 by_cases g5:n5 < 0
 ·exact ⟨-1,by simp (implicitDefEqProofs:=false) only [wm_,p_szWorld,pb,zK_,s12,s97,s98,s126,s127,s128,e0,e1,e2,e3,e4,e5,g0,g1,g2,g3,g4,g5],by omega,by omega⟩
 obtain ⟨n6,e6,b6,c6⟩:=ac2_ [t8] n5 (zP_ (show WTsU [.sl [.i .i64,.i .i64,.i .i64,.i .i64,.i .i64,.sl [.i .i64,.i .i64],.i .i64,.b]] _ from ⟨_,_,rfl,h8,rfl⟩)) (by omega) (by omega)
 simp only [List.cons_append,List.nil_append,zb_,zd_,zh_,zk_,zl_,zs_,Nat.add_zero,Nat.zero_add] at e6 c6
 by_cases g6:n6 < 0
 ·exact ⟨-1,by simp (implicitDefEqProofs:=false) only [wm_,p_szWorld,pb,zK_,s12,s97,s98,s126,s127,s128,e0,e1,e2,e3,e4,e5,e6,g0,g1,g2,g3,g4,g5,g6],by omega,by omega⟩
 refine ⟨n6,by simp (implicitDefEqProofs:=false) only [wm_,p_szWorld,pb,zK_,s12,s97,s98,s126,s127,s128,e0,e1,e2,e3,e4,e5,e6,g0,g1,g2,g3,g4,g5,g6],by omega,fun _=>?_⟩
 simp (implicitDefEqProofs:=false) only [zb_,zd_,zh_,zk_,zl_,zs_,Nat.add_zero,Nat.zero_add]
 have:=c0 (by omega)
 have:=c1 (by omega)
 have:=c2 (by omega)
 have:=c3 (by omega)
 have:=c4 (by omega)
 have:=c5 (by omega)
 have:=c6 (by omega)
 omega
theorem aI8_:ToOk aeb_ [.sl [.i .i64,.i .i64,.i .i64,.sl [.i .i64,.i .i64,.i .i64,.i .i64],.sl [.i .i64,.i .i64,.i .i64,.b],.sl [.i .i64],.sl [.i .i64,.i .i64,.i .i64,.i .i64,.i .i64,.sl [.i .i64,.i .i64],.i .i64,.b],.sl [.i .i64,.i .i64,.i .i64,.b]]]:=jK_ (S:=at6_) (w:=8) (g:=26) (zs:=[.k (.int .i64 0),.k (.int .i64 0),.k (.int .i64 0),.e,.e,.e,.e,.e]) (st:=.putD [true,true,true,false,false,false,false,false] 8 0) rfl aNy_ rfl rfl (fun xs i z vs=>arw_ (fs:=[.i .i64,.i .i64,.i .i64,.sl [.i .i64,.i .i64,.i .i64,.i .i64],.sl [.i .i64,.i .i64,.i .i64,.b],.sl [.i .i64],.sl [.i .i64,.i .i64,.i .i64,.i .i64,.i .i64,.sl [.i .i64,.i .i64],.i .i64,.b],.sl [.i .i64,.i .i64,.i .i64,.b]]) (w:=8) rfl rfl xs i z vs)
theorem aE2_:ToOk aa3_ [.i .i64,.i .i64,.i .i64,.i .i64,.sl [.i .i64],.sl [.i .i64,.i .i64,.i .i64,.i .i64,.i .i64,.sl [.i .i64,.i .i64],.i .i64,.b]]:=by
 intro ts ht hb
 obtain ⟨_,_,rfl,⟨x0,rfl,w0⟩,_,_,rfl,⟨x1,rfl,w1⟩,_,_,rfl,⟨x2,rfl,w2⟩,_,_,rfl,⟨x3,rfl,w3⟩,t4,_,rfl,h4,t5,_,rfl,h5,rfl⟩:=yg_ ht
 simp (implicitDefEqProofs:=false) only [zb_,zd_,zh_,zk_,zl_,zs_,Nat.add_zero,Nat.zero_add] at hb
 have s111:ahm_ 111=ql_:=rfl
 have s112:ahm_ 112=vd_:=rfl
 have e0:=ake_ [t4] (zP_ (show WTsU [.sl [.i .i64]] _ from ⟨_,_,rfl,h4,rfl⟩)) (by simp (implicitDefEqProofs:=false) only [zb_,zd_,zh_,zk_,zl_,zs_,Nat.add_zero,Nat.zero_add];omega)
 have e1:=ac9_ [t5] (zP_ (show WTsU [.sl [.i .i64,.i .i64,.i .i64,.i .i64,.i .i64,.sl [.i .i64,.i .i64],.i .i64,.b]] _ from ⟨_,_,rfl,h5,rfl⟩)) (by simp (implicitDefEqProofs:=false) only [zb_,zd_,zh_,zk_,zl_,zs_,Nat.add_zero,Nat.zero_add];omega)
 simp (implicitDefEqProofs:=false) only [aa3_,p_toPacket,pb,zK_,s111,s112,e0,e1]
theorem axe_:ToOk kZ_ [.sl [.i .i64,.i .i64,.i .i64,.i .i64,.sl [.i .i64],.sl [.i .i64,.i .i64,.i .i64,.i .i64,.i .i64,.sl [.i .i64,.i .i64],.i .i64,.b]]]:=jK_ (S:=am0_) (w:=6) (g:=59) (zs:=[.k (.int .i64 0),.k (.int .i64 0),.k (.int .i64 0),.k (.int .i64 0),.e,.e]) (st:=.putD [true,true,true,true,false,false] 6 0) rfl aE2_ rfl rfl (fun xs i z vs=>arw_ (fs:=[.i .i64,.i .i64,.i .i64,.i .i64,.sl [.i .i64],.sl [.i .i64,.i .i64,.i .i64,.i .i64,.i .i64,.sl [.i .i64,.i .i64],.i .i64,.b]]) (w:=6) rfl rfl xs i z vs)
theorem aJ9_:ToOk kb_ [.i .i64,.sl [.i .i64,.i .i64,.i .i64,.i .i64],.sl [.i .i64,.i .i64,.i .i64,.b],.sl [.b],.sl [.b],.sl [.i .i64],.sl [.i .i64,.i .i64,.i .i64,.sl [.i .i64,.i .i64,.i .i64,.i .i64],.sl [.i .i64,.i .i64,.i .i64,.b],.sl [.i .i64],.sl [.i .i64,.i .i64,.i .i64,.i .i64,.i .i64,.sl [.i .i64,.i .i64],.i .i64,.b],.sl [.i .i64,.i .i64,.i .i64,.b]],.sl [.i .i64,.i .i64,.i .i64,.i .i64,.sl [.i .i64],.sl [.i .i64,.i .i64,.i .i64,.i .i64,.i .i64,.sl [.i .i64,.i .i64],.i .i64,.b]],.sl [.i .i64,.i .i64,.i .i64,.i .i64,.i .i64,.sl [.i .i64,.i .i64],.i .i64,.b],.i .i64]:=by
 intro ts ht hb
 obtain ⟨_,_,rfl,⟨x0,rfl,w0⟩,t1,_,rfl,h1,t2,_,rfl,h2,t3,_,rfl,h3,t4,_,rfl,h4,t5,_,rfl,h5,t6,_,rfl,h6,t7,_,rfl,h7,t8,_,rfl,h8,_,_,rfl,⟨x9,rfl,w9⟩,rfl⟩:=yg_ ht
 simp (implicitDefEqProofs:=false) only [zb_,zd_,zh_,zk_,zl_,zs_,Nat.add_zero,Nat.zero_add] at hb
 have s14:qt_ 14=kL_:=rfl
 have s15:qt_ 15=add_:=rfl
 have s111:qt_ 111=ql_:=rfl
 have s112:qt_ 112=vd_:=rfl
 have s130:qt_ 130=aeb_:=rfl
 have s131:qt_ 131=kZ_:=rfl
 have e0:=ax9_ [.c (.int .i64 x0),t1,t2] (zP_ (show WTsU [.i .i64,.sl [.i .i64,.i .i64,.i .i64,.i .i64],.sl [.i .i64,.i .i64,.i .i64,.b]] _ from ⟨_,_,rfl,⟨_,rfl,w0⟩,_,_,rfl,h1,_,_,rfl,h2,rfl⟩)) (by simp (implicitDefEqProofs:=false) only [zb_,zd_,zh_,zk_,zl_,zs_,Nat.add_zero,Nat.zero_add];omega)
 have e1:=apc_ [t3] (zP_ (show WTsU [.sl [.b]] _ from ⟨_,_,rfl,h3,rfl⟩)) (by simp (implicitDefEqProofs:=false) only [zb_,zd_,zh_,zk_,zl_,zs_,Nat.add_zero,Nat.zero_add];omega)
 have e2:=apc_ [t4] (zP_ (show WTsU [.sl [.b]] _ from ⟨_,_,rfl,h4,rfl⟩)) (by simp (implicitDefEqProofs:=false) only [zb_,zd_,zh_,zk_,zl_,zs_,Nat.add_zero,Nat.zero_add];omega)
 have e3:=ake_ [t5] (zP_ (show WTsU [.sl [.i .i64]] _ from ⟨_,_,rfl,h5,rfl⟩)) (by simp (implicitDefEqProofs:=false) only [zb_,zd_,zh_,zk_,zl_,zs_,Nat.add_zero,Nat.zero_add];omega)
 have e4:=aI8_ [t6] (zP_ (show WTsU [.sl [.i .i64,.i .i64,.i .i64,.sl [.i .i64,.i .i64,.i .i64,.i .i64],.sl [.i .i64,.i .i64,.i .i64,.b],.sl [.i .i64],.sl [.i .i64,.i .i64,.i .i64,.i .i64,.i .i64,.sl [.i .i64,.i .i64],.i .i64,.b],.sl [.i .i64,.i .i64,.i .i64,.b]]] _ from ⟨_,_,rfl,h6,rfl⟩)) (by simp (implicitDefEqProofs:=false) only [zb_,zd_,zh_,zk_,zl_,zs_,Nat.add_zero,Nat.zero_add];omega)
 have e5:=axe_ [t7] (zP_ (show WTsU [.sl [.i .i64,.i .i64,.i .i64,.i .i64,.sl [.i .i64],.sl [.i .i64,.i .i64,.i .i64,.i .i64,.i .i64,.sl [.i .i64,.i .i64],.i .i64,.b]]] _ from ⟨_,_,rfl,h7,rfl⟩)) (by simp (implicitDefEqProofs:=false) only [zb_,zd_,zh_,zk_,zl_,zs_,Nat.add_zero,Nat.zero_add];omega)
 have e6:=ac9_ [t8] (zP_ (show WTsU [.sl [.i .i64,.i .i64,.i .i64,.i .i64,.i .i64,.sl [.i .i64,.i .i64],.i .i64,.b]] _ from ⟨_,_,rfl,h8,rfl⟩)) (by simp (implicitDefEqProofs:=false) only [zb_,zd_,zh_,zk_,zl_,zs_,Nat.add_zero,Nat.zero_add];omega)
 simp (implicitDefEqProofs:=false) only [kb_,p_toWorld,pb,zK_,s14,s15,s111,s112,s130,s131,e0,e1,e2,e3,e4,e5,e6]
theorem aG4_:EqOk ad5_ [.sl [.i .i64,.i .i64,.i .i64,.sl [.i .i64,.i .i64,.i .i64,.i .i64],.sl [.i .i64,.i .i64,.i .i64,.b],.sl [.i .i64],.sl [.i .i64,.i .i64,.i .i64,.i .i64,.i .i64,.sl [.i .i64,.i .i64],.i .i64,.b],.sl [.i .i64,.i .i64,.i .i64,.b]]]:=jQ_ (S:=at1_) (w:=8) (g:=28) rfl aMm_
theorem aC3_:EqOk abi_ [.i .i64,.i .i64,.i .i64,.i .i64,.sl [.i .i64],.sl [.i .i64,.i .i64,.i .i64,.i .i64,.i .i64,.sl [.i .i64,.i .i64],.i .i64,.b]]:=by
 intro ts ht hb
 obtain ⟨_,_,rfl,⟨x0,rfl,w0⟩,_,_,rfl,⟨x1,rfl,w1⟩,_,_,rfl,⟨x2,rfl,w2⟩,_,_,rfl,⟨x3,rfl,w3⟩,t4,_,rfl,h4,t5,_,rfl,h5,rfl⟩:=yg_ ht
 simp (implicitDefEqProofs:=false) only [zb_,zd_,zh_,zk_,zl_,zs_,Nat.add_zero,Nat.zero_add] at hb
 have s35:ag6_ 35=ve_:=rfl
 have s67:ag6_ 67=qz_:=rfl
 have e0:=ak3_ [t4] (zP_ (show WTsU [.sl [.i .i64]] _ from ⟨_,_,rfl,h4,rfl⟩)) (by simp (implicitDefEqProofs:=false) only [zb_,zd_,zh_,zk_,zl_,zs_,Nat.add_zero,Nat.zero_add];omega)
 simp only [List.cons_append,List.nil_append] at e0
 have e1:=abx_ [t5] (zP_ (show WTsU [.sl [.i .i64,.i .i64,.i .i64,.i .i64,.i .i64,.sl [.i .i64,.i .i64],.i .i64,.b]] _ from ⟨_,_,rfl,h5,rfl⟩)) (by simp (implicitDefEqProofs:=false) only [zb_,zd_,zh_,zk_,zl_,zs_,Nat.add_zero,Nat.zero_add];omega)
 simp only [List.cons_append,List.nil_append] at e1
 simp (implicitDefEqProofs:=false) only [abi_,p_eqPacket,pb,zK_,s35,s67,e0,e1]
theorem axw_:EqOk k2_ [.sl [.i .i64,.i .i64,.i .i64,.i .i64,.sl [.i .i64],.sl [.i .i64,.i .i64,.i .i64,.i .i64,.i .i64,.sl [.i .i64,.i .i64],.i .i64,.b]]]:=jQ_ (S:=am8_) (w:=6) (g:=61) rfl aC3_
theorem aKr_:EqOk jV_ [.i .i64,.sl [.i .i64,.i .i64,.i .i64,.i .i64],.sl [.i .i64,.i .i64,.i .i64,.b],.sl [.b],.sl [.b],.sl [.i .i64],.sl [.i .i64,.i .i64,.i .i64,.sl [.i .i64,.i .i64,.i .i64,.i .i64],.sl [.i .i64,.i .i64,.i .i64,.b],.sl [.i .i64],.sl [.i .i64,.i .i64,.i .i64,.i .i64,.i .i64,.sl [.i .i64,.i .i64],.i .i64,.b],.sl [.i .i64,.i .i64,.i .i64,.b]],.sl [.i .i64,.i .i64,.i .i64,.i .i64,.sl [.i .i64],.sl [.i .i64,.i .i64,.i .i64,.i .i64,.i .i64,.sl [.i .i64,.i .i64],.i .i64,.b]],.sl [.i .i64,.i .i64,.i .i64,.i .i64,.i .i64,.sl [.i .i64,.i .i64],.i .i64,.b],.i .i64]:=by
 intro ts ht hb
 obtain ⟨_,_,rfl,⟨x0,rfl,w0⟩,t1,_,rfl,h1,t2,_,rfl,h2,t3,_,rfl,h3,t4,_,rfl,h4,t5,_,rfl,h5,t6,_,rfl,h6,t7,_,rfl,h7,t8,_,rfl,h8,_,_,rfl,⟨x9,rfl,w9⟩,rfl⟩:=yg_ ht
 simp (implicitDefEqProofs:=false) only [zb_,zd_,zh_,zk_,zl_,zs_,Nat.add_zero,Nat.zero_add] at hb
 have s18:qw_ 18=kH_:=rfl
 have s19:qw_ 19=adr_:=rfl
 have s35:qw_ 35=ve_:=rfl
 have s54:qw_ 54=k2_:=rfl
 have s67:qw_ 67=qz_:=rfl
 have s134:qw_ 134=ad5_:=rfl
 have e0:=aye_ [.c (.int .i64 x0),t1,t2] (zP_ (show WTsU [.i .i64,.sl [.i .i64,.i .i64,.i .i64,.i .i64],.sl [.i .i64,.i .i64,.i .i64,.b]] _ from ⟨_,_,rfl,⟨_,rfl,w0⟩,_,_,rfl,h1,_,_,rfl,h2,rfl⟩)) (by simp (implicitDefEqProofs:=false) only [zb_,zd_,zh_,zk_,zl_,zs_,Nat.add_zero,Nat.zero_add];omega)
 simp only [List.cons_append,List.nil_append] at e0
 have e1:=ap0_ [t3] (zP_ (show WTsU [.sl [.b]] _ from ⟨_,_,rfl,h3,rfl⟩)) (by simp (implicitDefEqProofs:=false) only [zb_,zd_,zh_,zk_,zl_,zs_,Nat.add_zero,Nat.zero_add];omega)
 simp only [List.cons_append,List.nil_append] at e1
 have e2:=ap0_ [t4] (zP_ (show WTsU [.sl [.b]] _ from ⟨_,_,rfl,h4,rfl⟩)) (by simp (implicitDefEqProofs:=false) only [zb_,zd_,zh_,zk_,zl_,zs_,Nat.add_zero,Nat.zero_add];omega)
 simp only [List.cons_append,List.nil_append] at e2
 have e3:=ak3_ [t5] (zP_ (show WTsU [.sl [.i .i64]] _ from ⟨_,_,rfl,h5,rfl⟩)) (by simp (implicitDefEqProofs:=false) only [zb_,zd_,zh_,zk_,zl_,zs_,Nat.add_zero,Nat.zero_add];omega)
 simp only [List.cons_append,List.nil_append] at e3
 have e4:=aG4_ [t6] (zP_ (show WTsU [.sl [.i .i64,.i .i64,.i .i64,.sl [.i .i64,.i .i64,.i .i64,.i .i64],.sl [.i .i64,.i .i64,.i .i64,.b],.sl [.i .i64],.sl [.i .i64,.i .i64,.i .i64,.i .i64,.i .i64,.sl [.i .i64,.i .i64],.i .i64,.b],.sl [.i .i64,.i .i64,.i .i64,.b]]] _ from ⟨_,_,rfl,h6,rfl⟩)) (by simp (implicitDefEqProofs:=false) only [zb_,zd_,zh_,zk_,zl_,zs_,Nat.add_zero,Nat.zero_add];omega)
 simp only [List.cons_append,List.nil_append] at e4
 have e5:=axw_ [t7] (zP_ (show WTsU [.sl [.i .i64,.i .i64,.i .i64,.i .i64,.sl [.i .i64],.sl [.i .i64,.i .i64,.i .i64,.i .i64,.i .i64,.sl [.i .i64,.i .i64],.i .i64,.b]]] _ from ⟨_,_,rfl,h7,rfl⟩)) (by simp (implicitDefEqProofs:=false) only [zb_,zd_,zh_,zk_,zl_,zs_,Nat.add_zero,Nat.zero_add];omega)
 simp only [List.cons_append,List.nil_append] at e5
 have e6:=abx_ [t8] (zP_ (show WTsU [.sl [.i .i64,.i .i64,.i .i64,.i .i64,.i .i64,.sl [.i .i64,.i .i64],.i .i64,.b]] _ from ⟨_,_,rfl,h8,rfl⟩)) (by simp (implicitDefEqProofs:=false) only [zb_,zd_,zh_,zk_,zl_,zs_,Nat.add_zero,Nat.zero_add];omega)
 simp only [List.cons_append,List.nil_append] at e6
 simp (implicitDefEqProofs:=false) only [jV_,p_eqWorld,pb,zK_,s18,s19,s35,s54,s67,s134,e0,e1,e2,e3,e4,e5,e6]
end Go.Proofs.YtiebbbmibbkpcaaGreatC

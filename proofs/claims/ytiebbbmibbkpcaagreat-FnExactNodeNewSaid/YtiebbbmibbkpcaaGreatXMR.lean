/- What the functions of the families sz, to, eq do (printed by a program). Conditions: none. -/
import Derived.Test.YtiebbbmibbkpcaaGreatXPR
import Derived.Test.YtiebbbmibbkpcaaGreatKe
namespace Go.Proofs.YtiebbbmibbkpcaaGreatC
set_option linter.unusedVariables false
set_option linter.unusedSimpArgs false
theorem aD1_:SzOk adn_ [.sl [.i .i64,.i .i64,.i .i64,.i .i64]]:=avs_ (S:=asg_) (R:=rounds) rfl
theorem azm_:SzOk abc_ [.sl [.i .i64,.i .i64,.i .i64,.b]]:=avs_ (S:=aos_) (R:=rounds) rfl
theorem aM0_:SzOk kM_ [.i .i64,.sl [.i .i64,.i .i64,.i .i64,.i .i64],.sl [.i .i64,.i .i64,.i .i64,.b]]:=by
 intro ts l ht h_0 h_1
 obtain ⟨_,_,rfl,⟨x0,rfl,w0⟩,t1,_,rfl,h1,t2,_,rfl,h2,rfl⟩:=wo_ ht
 have s72:aq2_ 72=adn_:=rfl
 have s73:aq2_ 73=abc_:=rfl
 obtain ⟨n0,e0,b0,c0⟩:=aD1_ [t1] l (wl_ (show WTsU [.sl [.i .i64,.i .i64,.i .i64,.i .i64]] _ from ⟨_,_,rfl,h1,rfl⟩)) (by omega) (by omega)
 simp only [List.cons_append,List.nil_append,zo_,zx_,z3_,yw_,yB_,xG_,Nat.add_zero,Nat.zero_add] at e0 c0
 by_cases g0:n0 < 0
 ·exact ⟨-1,by simp (implicitDefEqProofs:=false) only [kM_,p_szNet,pb,ym_,s72,s73,e0,g0],by omega,by omega⟩
 obtain ⟨n1,e1,b1,c1⟩:=azm_ [t2] n0 (wl_ (show WTsU [.sl [.i .i64,.i .i64,.i .i64,.b]] _ from ⟨_,_,rfl,h2,rfl⟩)) (by omega) (by omega)
 simp only [List.cons_append,List.nil_append,zo_,zx_,z3_,yw_,yB_,xG_,Nat.add_zero,Nat.zero_add] at e1 c1
 by_cases g1:n1 < 0
 ·exact ⟨-1,by simp (implicitDefEqProofs:=false) only [kM_,p_szNet,pb,ym_,s72,s73,e0,e1,g0,g1],by omega,by omega⟩
 refine ⟨n1,by simp (implicitDefEqProofs:=false) only [kM_,p_szNet,pb,ym_,s72,s73,e0,e1,g0,g1],by omega,fun _=>?_⟩
 simp (implicitDefEqProofs:=false) only [zo_,zx_,z3_,yw_,yB_,xG_,Nat.add_zero,Nat.zero_add]
 have:=c0 (by omega)
 have:=c1 (by omega)
 omega
theorem aIo_:ToOk ah5_ [.i .i64,.i .i64,.i .i64,.i .i64]:=by
 intro ts ht hb
 obtain ⟨_,_,rfl,⟨x0,rfl,w0⟩,_,_,rfl,⟨x1,rfl,w1⟩,_,_,rfl,⟨x2,rfl,w2⟩,_,_,rfl,⟨x3,rfl,w3⟩,rfl⟩:=wo_ ht
 simp (implicitDefEqProofs:=false) only [zo_,zx_,z3_,yw_,yB_,xG_,Nat.add_zero,Nat.zero_add] at hb
 simp (implicitDefEqProofs:=false) only [ah5_,p_toLink,pb,ym_]
theorem aE2_:ToOk ad9_ [.sl [.i .i64,.i .i64,.i .i64,.i .i64]]:=awj_ (S:=arv_) (w:=4) (g:=179) (zs:=[.k (.int .i64 0),.k (.int .i64 0),.k (.int .i64 0),.k (.int .i64 0)]) (st:=.put true 4 0 4) rfl aIo_ rfl rfl (fun xs i z vs=>aKu_ (fs:=[.i .i64,.i .i64,.i .i64,.i .i64]) (w:=4) rfl rfl xs i z vs)
theorem aFw_:ToOk adm_ [.i .i64,.i .i64,.i .i64,.b]:=by
 intro ts ht hb
 obtain ⟨_,_,rfl,⟨x0,rfl,w0⟩,_,_,rfl,⟨x1,rfl,w1⟩,_,_,rfl,⟨x2,rfl,w2⟩,_,_,rfl,⟨x3,rfl⟩,rfl⟩:=wo_ ht
 simp (implicitDefEqProofs:=false) only [zo_,zx_,z3_,yw_,yB_,xG_,Nat.add_zero,Nat.zero_add] at hb
 simp (implicitDefEqProofs:=false) only [adm_,p_toThing,pb,ym_]
theorem aCs_:ToOk abd_ [.sl [.i .i64,.i .i64,.i .i64,.b]]:=awj_ (S:=aof_) (w:=4) (g:=180) (zs:=[.k (.int .i64 0),.k (.int .i64 0),.k (.int .i64 0),.k (.bool false)]) (st:=.put true 4 0 4) rfl aFw_ rfl rfl (fun xs i z vs=>aKu_ (fs:=[.i .i64,.i .i64,.i .i64,.b]) (w:=4) rfl rfl xs i z vs)
theorem aNu_:ToOk age_ [.i .i64,.sl [.i .i64,.i .i64,.i .i64,.i .i64],.sl [.i .i64,.i .i64,.i .i64,.b]]:=by
 intro ts ht hb
 obtain ⟨_,_,rfl,⟨x0,rfl,w0⟩,t1,_,rfl,h1,t2,_,rfl,h2,rfl⟩:=wo_ ht
 simp (implicitDefEqProofs:=false) only [zo_,zx_,z3_,yw_,yB_,xG_,Nat.add_zero,Nat.zero_add] at hb
 have s79:aq0_ 79=ad9_:=rfl
 have s80:aq0_ 80=abd_:=rfl
 have e0:=aE2_ [t1] (wl_ (show WTsU [.sl [.i .i64,.i .i64,.i .i64,.i .i64]] _ from ⟨_,_,rfl,h1,rfl⟩)) (by simp (implicitDefEqProofs:=false) only [zo_,zx_,z3_,yw_,yB_,xG_,Nat.add_zero,Nat.zero_add];omega)
 have e1:=aCs_ [t2] (wl_ (show WTsU [.sl [.i .i64,.i .i64,.i .i64,.b]] _ from ⟨_,_,rfl,h2,rfl⟩)) (by simp (implicitDefEqProofs:=false) only [zo_,zx_,z3_,yw_,yB_,xG_,Nat.add_zero,Nat.zero_add];omega)
 simp (implicitDefEqProofs:=false) only [age_,p_toNet,pb,ym_,s79,s80,e0,e1]
theorem aLo_:EqOk ai6_ [.sl [.i .i64]]:=aMp_ (S:=av7_) (op:=.bin .neq) aSj_
theorem aIj_:EqOk ahe_ [.i .i64,.i .i64,.i .i64,.i .i64]:=by
 intro ts ht hb
 obtain ⟨_,_,rfl,⟨x0,rfl,w0⟩,_,_,rfl,⟨x1,rfl,w1⟩,_,_,rfl,⟨x2,rfl,w2⟩,_,_,rfl,⟨x3,rfl,w3⟩,rfl⟩:=wo_ ht
 simp (implicitDefEqProofs:=false) only [zo_,zx_,z3_,yw_,yB_,xG_,Nat.add_zero,Nat.zero_add] at hb
 simp (implicitDefEqProofs:=false) only [ahe_,p_eqLink,pb,ym_]
theorem aFl_:EqOk adx_ [.sl [.i .i64,.i .i64,.i .i64,.i .i64]]:=aco_ (S:=asr_) (w:=4) (g:=188) rfl aIj_
theorem aEj_:EqOk ad1_ [.i .i64,.i .i64,.i .i64,.b]:=by
 intro ts ht hb
 obtain ⟨_,_,rfl,⟨x0,rfl,w0⟩,_,_,rfl,⟨x1,rfl,w1⟩,_,_,rfl,⟨x2,rfl,w2⟩,_,_,rfl,⟨x3,rfl⟩,rfl⟩:=wo_ ht
 simp (implicitDefEqProofs:=false) only [zo_,zx_,z3_,yw_,yB_,xG_,Nat.add_zero,Nat.zero_add] at hb
 simp (implicitDefEqProofs:=false) only [ad1_,p_eqThing,pb,ym_]
theorem aAt_:EqOk aa4_ [.sl [.i .i64,.i .i64,.i .i64,.b]]:=aco_ (S:=aph_) (w:=4) (g:=189) rfl aEj_
theorem ayy_:EqOk kN_ [.i .i64,.sl [.i .i64,.i .i64,.i .i64,.i .i64],.sl [.i .i64,.i .i64,.i .i64,.b]]:=by
 intro ts ht hb
 obtain ⟨_,_,rfl,⟨x0,rfl,w0⟩,t1,_,rfl,h1,t2,_,rfl,h2,rfl⟩:=wo_ ht
 simp (implicitDefEqProofs:=false) only [zo_,zx_,z3_,yw_,yB_,xG_,Nat.add_zero,Nat.zero_add] at hb
 have s87:ark_ 87=adx_:=rfl
 have s88:ark_ 88=aa4_:=rfl
 have e0:=aFl_ [t1] (wl_ (show WTsU [.sl [.i .i64,.i .i64,.i .i64,.i .i64]] _ from ⟨_,_,rfl,h1,rfl⟩)) (by simp (implicitDefEqProofs:=false) only [zo_,zx_,z3_,yw_,yB_,xG_,Nat.add_zero,Nat.zero_add];omega)
 simp only [List.cons_append,List.nil_append] at e0
 have e1:=aAt_ [t2] (wl_ (show WTsU [.sl [.i .i64,.i .i64,.i .i64,.b]] _ from ⟨_,_,rfl,h2,rfl⟩)) (by simp (implicitDefEqProofs:=false) only [zo_,zx_,z3_,yw_,yB_,xG_,Nat.add_zero,Nat.zero_add];omega)
 simp only [List.cons_append,List.nil_append] at e1
 simp (implicitDefEqProofs:=false) only [kN_,p_eqNet,pb,ym_,s87,s88,e0,e1]
theorem aK7_:EqOk agp_ [.i .i64,.i .i64]:=by
 intro ts ht hb
 obtain ⟨_,_,rfl,⟨x0,rfl,w0⟩,_,_,rfl,⟨x1,rfl,w1⟩,rfl⟩:=wo_ ht
 simp (implicitDefEqProofs:=false) only [zo_,zx_,z3_,yw_,yB_,xG_,Nat.add_zero,Nat.zero_add] at hb
 simp (implicitDefEqProofs:=false) only [agp_,p_eqNear,pb,ym_]
theorem aHm_:EqOk ad6_ [.sl [.i .i64,.i .i64]]:=aco_ (S:=arw_) (w:=2) (g:=263) rfl aK7_
theorem aBe_:EqOk aa7_ [.i .i64,.i .i64,.i .i64,.i .i64,.i .i64,.sl [.i .i64,.i .i64],.i .i64,.b]:=by
 intro ts ht hb
 obtain ⟨_,_,rfl,⟨x0,rfl,w0⟩,_,_,rfl,⟨x1,rfl,w1⟩,_,_,rfl,⟨x2,rfl,w2⟩,_,_,rfl,⟨x3,rfl,w3⟩,_,_,rfl,⟨x4,rfl,w4⟩,t5,_,rfl,h5,_,_,rfl,⟨x6,rfl,w6⟩,_,_,rfl,⟨x7,rfl⟩,rfl⟩:=wo_ ht
 simp (implicitDefEqProofs:=false) only [zo_,zx_,z3_,yw_,yB_,xG_,Nat.add_zero,Nat.zero_add] at hb
 have s211:ao4_ 211=ad6_:=rfl
 have e0:=aHm_ [t5] (wl_ (show WTsU [.sl [.i .i64,.i .i64]] _ from ⟨_,_,rfl,h5,rfl⟩)) (by simp (implicitDefEqProofs:=false) only [zo_,zx_,z3_,yw_,yB_,xG_,Nat.add_zero,Nat.zero_add];omega)
 simp only [List.cons_append,List.nil_append] at e0
 simp (implicitDefEqProofs:=false) only [aa7_,p_eqRecord,pb,ym_,s211,e0]
theorem axv_:EqOk k3_ [.sl [.i .i64,.i .i64,.i .i64,.i .i64,.i .i64,.sl [.i .i64,.i .i64],.i .i64,.b]]:=aco_ (S:=am4_) (w:=8) (g:=118) rfl aBe_
theorem aIk_:EqOk abx_ [.i .i64,.i .i64,.i .i64,.sl [.i .i64,.i .i64,.i .i64,.i .i64],.sl [.i .i64,.i .i64,.i .i64,.b],.sl [.i .i64],.sl [.i .i64,.i .i64,.i .i64,.i .i64,.i .i64,.sl [.i .i64,.i .i64],.i .i64,.b]]:=by
 intro ts ht hb
 obtain ⟨_,_,rfl,⟨x0,rfl,w0⟩,_,_,rfl,⟨x1,rfl,w1⟩,_,_,rfl,⟨x2,rfl,w2⟩,t3,_,rfl,h3,t4,_,rfl,h4,t5,_,rfl,h5,t6,_,rfl,h6,rfl⟩:=wo_ ht
 simp (implicitDefEqProofs:=false) only [zo_,zx_,z3_,yw_,yB_,xG_,Nat.add_zero,Nat.zero_add] at hb
 have s18:ahw_ 18=kN_:=rfl
 have s35:ahw_ 35=k3_:=rfl
 have s67:ahw_ 67=ai6_:=rfl
 have e0:=ayy_ [.c (.int .i64 x2),t3,t4] (wl_ (show WTsU [.i .i64,.sl [.i .i64,.i .i64,.i .i64,.i .i64],.sl [.i .i64,.i .i64,.i .i64,.b]] _ from ⟨_,_,rfl,⟨_,rfl,w2⟩,_,_,rfl,h3,_,_,rfl,h4,rfl⟩)) (by simp (implicitDefEqProofs:=false) only [zo_,zx_,z3_,yw_,yB_,xG_,Nat.add_zero,Nat.zero_add];omega)
 simp only [List.cons_append,List.nil_append] at e0
 have e1:=aLo_ [t5] (wl_ (show WTsU [.sl [.i .i64]] _ from ⟨_,_,rfl,h5,rfl⟩)) (by simp (implicitDefEqProofs:=false) only [zo_,zx_,z3_,yw_,yB_,xG_,Nat.add_zero,Nat.zero_add];omega)
 simp only [List.cons_append,List.nil_append] at e1
 have e2:=axv_ [t6] (wl_ (show WTsU [.sl [.i .i64,.i .i64,.i .i64,.i .i64,.i .i64,.sl [.i .i64,.i .i64],.i .i64,.b]] _ from ⟨_,_,rfl,h6,rfl⟩)) (by simp (implicitDefEqProofs:=false) only [zo_,zx_,z3_,yw_,yB_,xG_,Nat.add_zero,Nat.zero_add];omega)
 simp only [List.cons_append,List.nil_append] at e2
 simp (implicitDefEqProofs:=false) only [abx_,p_eqSelf,pb,ym_,s18,s35,s67,e0,e1,e2]
theorem aOl_:EqOk al0_ [.i .i64,.i .i64,.i .i64,.b]:=by
 intro ts ht hb
 obtain ⟨_,_,rfl,⟨x0,rfl,w0⟩,_,_,rfl,⟨x1,rfl,w1⟩,_,_,rfl,⟨x2,rfl,w2⟩,_,_,rfl,⟨x3,rfl⟩,rfl⟩:=wo_ ht
 simp (implicitDefEqProofs:=false) only [zo_,zx_,z3_,yw_,yB_,xG_,Nat.add_zero,Nat.zero_add] at hb
 simp (implicitDefEqProofs:=false) only [al0_,p_eqEar,pb,ym_]
theorem aH8_:EqOk agr_ [.sl [.i .i64,.i .i64,.i .i64,.b]]:=aco_ (S:=ay2_) (w:=4) (g:=193) rfl aOl_
theorem aK8_:EqOk acq_ [.i .i64,.i .i64,.i .i64,.sl [.i .i64,.i .i64,.i .i64,.i .i64],.sl [.i .i64,.i .i64,.i .i64,.b],.sl [.i .i64],.sl [.i .i64,.i .i64,.i .i64,.i .i64,.i .i64,.sl [.i .i64,.i .i64],.i .i64,.b],.sl [.i .i64,.i .i64,.i .i64,.b]]:=by
 intro ts ht hb
 obtain ⟨_,_,rfl,⟨x0,rfl,w0⟩,_,_,rfl,⟨x1,rfl,w1⟩,_,_,rfl,⟨x2,rfl,w2⟩,t3,_,rfl,h3,t4,_,rfl,h4,t5,_,rfl,h5,t6,_,rfl,h6,t7,_,rfl,h7,rfl⟩:=wo_ ht
 simp (implicitDefEqProofs:=false) only [zo_,zx_,z3_,yw_,yB_,xG_,Nat.add_zero,Nat.zero_add] at hb
 have s34:am7_ 34=abx_:=rfl
 have s95:am7_ 95=agr_:=rfl
 have e0:=aIk_ [.c (.int .i64 x0),.c (.int .i64 x1),.c (.int .i64 x2),t3,t4,t5,t6] (wl_ (show WTsU [.i .i64,.i .i64,.i .i64,.sl [.i .i64,.i .i64,.i .i64,.i .i64],.sl [.i .i64,.i .i64,.i .i64,.b],.sl [.i .i64],.sl [.i .i64,.i .i64,.i .i64,.i .i64,.i .i64,.sl [.i .i64,.i .i64],.i .i64,.b]] _ from ⟨_,_,rfl,⟨_,rfl,w0⟩,_,_,rfl,⟨_,rfl,w1⟩,_,_,rfl,⟨_,rfl,w2⟩,_,_,rfl,h3,_,_,rfl,h4,_,_,rfl,h5,_,_,rfl,h6,rfl⟩)) (by simp (implicitDefEqProofs:=false) only [zo_,zx_,z3_,yw_,yB_,xG_,Nat.add_zero,Nat.zero_add];omega)
 simp only [List.cons_append,List.nil_append] at e0
 have e1:=aH8_ [t7] (wl_ (show WTsU [.sl [.i .i64,.i .i64,.i .i64,.b]] _ from ⟨_,_,rfl,h7,rfl⟩)) (by simp (implicitDefEqProofs:=false) only [zo_,zx_,z3_,yw_,yB_,xG_,Nat.add_zero,Nat.zero_add];omega)
 simp only [List.cons_append,List.nil_append] at e1
 simp (implicitDefEqProofs:=false) only [acq_,p_eqNode,pb,ym_,s34,s95,e0,e1]
theorem aBl_:kC_ aa3_ [.sl [.i .i64]]:=abr_ (S:=aqa_) (fs:=[.i .i64]) (gs:=[]) (trivial) rfl
theorem awt_:kC_ k5_ [.sl [.i .i64,.i .i64,.i .i64,.i .i64]]:=abr_ (S:=aml_) (fs:=[.i .i64,.i .i64,.i .i64,.i .i64]) (gs:=[]) (trivial) rfl
theorem att_:kC_ kp_ [.sl [.i .i64,.i .i64,.i .i64,.b]]:=abr_ (S:=ajw_) (fs:=[.i .i64,.i .i64,.i .i64,.b]) (gs:=[]) (trivial) rfl
theorem aww_:kC_ aem_ [.sl [.i .i64,.i .i64]]:=abr_ (S:=amw_) (fs:=[.i .i64,.i .i64]) (gs:=[]) (trivial) rfl
theorem arm_:kC_ ju_ [.sl [.i .i64,.i .i64,.i .i64,.i .i64,.i .i64,.sl [.i .i64,.i .i64],.i .i64,.b]]:=abr_ (S:=aje_) (fs:=[.i .i64,.i .i64,.i .i64,.i .i64,.i .i64,.sl [.i .i64,.i .i64],.i .i64,.b]) (gs:=[121]) (And.intro aww_ (trivial)) rfl
theorem aCd_:kC_ abh_ [.sl [.i .i64,.i .i64,.i .i64,.b]]:=abr_ (S:=ap8_) (fs:=[.i .i64,.i .i64,.i .i64,.b]) (gs:=[]) (trivial) rfl
end Go.Proofs.YtiebbbmibbkpcaaGreatC

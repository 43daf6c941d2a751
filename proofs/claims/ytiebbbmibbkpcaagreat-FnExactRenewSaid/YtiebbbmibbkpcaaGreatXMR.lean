/- What the functions of the families sz, to, eq do (printed by a program). Conditions: none. -/
import Derived.Test.YtiebbbmibbkpcaaGreatXPR
import Derived.Test.YtiebbbmibbkpcaaGreatKe
namespace Go.Proofs.YtiebbbmibbkpcaaGreatC
set_option linter.unusedVariables false
set_option linter.unusedSimpArgs false
theorem aFv_:SzOk adl_ [.sl [.i .i64,.i .i64,.i .i64,.i .i64]]:=ahw_ (S:=asr_) (R:=rounds) rfl
theorem azt_:SzOk aa2_ [.sl [.i .i64,.i .i64,.i .i64,.b]]:=ahw_ (S:=aoc_) (R:=rounds) rfl
theorem aLc_:SzOk kB_ [.i .i64,.sl [.i .i64,.i .i64,.i .i64,.i .i64],.sl [.i .i64,.i .i64,.i .i64,.b]]:=by
 intro ts l ht h_0 h_1
 obtain ⟨_,_,rfl,⟨x0,rfl,w0⟩,t1,_,rfl,h1,t2,_,rfl,h2,rfl⟩:=xn_ ht
 have s72:arb_ 72=adl_:=rfl
 have s73:arb_ 73=aa2_:=rfl
 obtain ⟨n0,e0,b0,c0⟩:=aFv_ [t1] l (xx_ (show WTsU [.sl [.i .i64,.i .i64,.i .i64,.i .i64]] _ from ⟨_,_,rfl,h1,rfl⟩)) (by omega) (by omega)
 simp only [List.cons_append,List.nil_append,ze_,zo_,zH_,z6_,z9_,yK_,Nat.add_zero,Nat.zero_add] at e0 c0
 by_cases g0:n0 < 0
 ·exact ⟨-1,by simp (implicitDefEqProofs:=false) only [kB_,p_szNet,pb,z4_,s72,s73,e0,g0],by omega,by omega⟩
 obtain ⟨n1,e1,b1,c1⟩:=azt_ [t2] n0 (xx_ (show WTsU [.sl [.i .i64,.i .i64,.i .i64,.b]] _ from ⟨_,_,rfl,h2,rfl⟩)) (by omega) (by omega)
 simp only [List.cons_append,List.nil_append,ze_,zo_,zH_,z6_,z9_,yK_,Nat.add_zero,Nat.zero_add] at e1 c1
 by_cases g1:n1 < 0
 ·exact ⟨-1,by simp (implicitDefEqProofs:=false) only [kB_,p_szNet,pb,z4_,s72,s73,e0,e1,g0,g1],by omega,by omega⟩
 refine ⟨n1,by simp (implicitDefEqProofs:=false) only [kB_,p_szNet,pb,z4_,s72,s73,e0,e1,g0,g1],by omega,fun _=>?_⟩
 simp (implicitDefEqProofs:=false) only [ze_,zo_,zH_,z6_,z9_,yK_,Nat.add_zero,Nat.zero_add]
 have:=c0 (by omega)
 have:=c1 (by omega)
 omega
theorem aIm_:SzOk ai0_ [.sl [.i .i64]]:=ahw_ (S:=aw7_) (R:=rounds) rfl
theorem aEf_:SzOk adh_ [.sl [.i .i64,.i .i64]]:=ahw_ (S:=ass_) (R:=rounds) rfl
theorem aAo_:SzOk kg_ [.i .i64,.i .i64,.i .i64,.i .i64,.i .i64,.sl [.i .i64,.i .i64],.i .i64,.b]:=by
 intro ts l ht h_0 h_1
 obtain ⟨_,_,rfl,⟨x0,rfl,w0⟩,_,_,rfl,⟨x1,rfl,w1⟩,_,_,rfl,⟨x2,rfl,w2⟩,_,_,rfl,⟨x3,rfl,w3⟩,_,_,rfl,⟨x4,rfl,w4⟩,t5,_,rfl,h5,_,_,rfl,⟨x6,rfl,w6⟩,_,_,rfl,⟨x7,rfl⟩,rfl⟩:=xn_ ht
 have s258:apr_ 258=adh_:=rfl
 obtain ⟨n0,e0,b0,c0⟩:=aEf_ [t5] l (xx_ (show WTsU [.sl [.i .i64,.i .i64]] _ from ⟨_,_,rfl,h5,rfl⟩)) (by omega) (by omega)
 simp only [List.cons_append,List.nil_append,ze_,zo_,zH_,z6_,z9_,yK_,Nat.add_zero,Nat.zero_add] at e0 c0
 by_cases g0:n0 < 0
 ·exact ⟨-1,by simp (implicitDefEqProofs:=false) only [kg_,p_szRecord,pb,z4_,s258,e0,g0],by omega,by omega⟩
 refine ⟨n0,by simp (implicitDefEqProofs:=false) only [kg_,p_szRecord,pb,z4_,s258,e0,g0],by omega,fun _=>?_⟩
 simp (implicitDefEqProofs:=false) only [ze_,zo_,zH_,z6_,z9_,yK_,Nat.add_zero,Nat.zero_add]
 have:=c0 (by omega)
 omega
theorem avi_:SzOk k5_ [.sl [.i .i64,.i .i64,.i .i64,.i .i64,.i .i64,.sl [.i .i64,.i .i64],.i .i64,.b]]:=aM9_ (S:=amp_) (w:=8) (g:=194) rfl aAo_
theorem aI9_:SzOk qy_ [.i .i64,.i .i64,.i .i64,.sl [.i .i64,.i .i64,.i .i64,.i .i64],.sl [.i .i64,.i .i64,.i .i64,.b],.sl [.i .i64],.sl [.i .i64,.i .i64,.i .i64,.i .i64,.i .i64,.sl [.i .i64,.i .i64],.i .i64,.b]]:=by
 intro ts l ht h_0 h_1
 obtain ⟨_,_,rfl,⟨x0,rfl,w0⟩,_,_,rfl,⟨x1,rfl,w1⟩,_,_,rfl,⟨x2,rfl,w2⟩,t3,_,rfl,h3,t4,_,rfl,h4,t5,_,rfl,h5,t6,_,rfl,h6,rfl⟩:=xn_ ht
 have s12:aim_ 12=kB_:=rfl
 have s97:aim_ 97=ai0_:=rfl
 have s98:aim_ 98=k5_:=rfl
 obtain ⟨n0,e0,b0,c0⟩:=aLc_ [.c (.int .i64 x2),t3,t4] l (xx_ (show WTsU [.i .i64,.sl [.i .i64,.i .i64,.i .i64,.i .i64],.sl [.i .i64,.i .i64,.i .i64,.b]] _ from ⟨_,_,rfl,⟨_,rfl,w2⟩,_,_,rfl,h3,_,_,rfl,h4,rfl⟩)) (by omega) (by omega)
 simp only [List.cons_append,List.nil_append,ze_,zo_,zH_,z6_,z9_,yK_,Nat.add_zero,Nat.zero_add] at e0 c0
 by_cases g0:n0 < 0
 ·exact ⟨-1,by simp (implicitDefEqProofs:=false) only [qy_,p_szSelf,pb,z4_,s12,s97,s98,e0,g0],by omega,by omega⟩
 obtain ⟨n1,e1,b1,c1⟩:=aIm_ [t5] n0 (xx_ (show WTsU [.sl [.i .i64]] _ from ⟨_,_,rfl,h5,rfl⟩)) (by omega) (by omega)
 simp only [List.cons_append,List.nil_append,ze_,zo_,zH_,z6_,z9_,yK_,Nat.add_zero,Nat.zero_add] at e1 c1
 by_cases g1:n1 < 0
 ·exact ⟨-1,by simp (implicitDefEqProofs:=false) only [qy_,p_szSelf,pb,z4_,s12,s97,s98,e0,e1,g0,g1],by omega,by omega⟩
 obtain ⟨n2,e2,b2,c2⟩:=avi_ [t6] n1 (xx_ (show WTsU [.sl [.i .i64,.i .i64,.i .i64,.i .i64,.i .i64,.sl [.i .i64,.i .i64],.i .i64,.b]] _ from ⟨_,_,rfl,h6,rfl⟩)) (by omega) (by omega)
 simp only [List.cons_append,List.nil_append,ze_,zo_,zH_,z6_,z9_,yK_,Nat.add_zero,Nat.zero_add] at e2 c2
 by_cases g2:n2 < 0
 ·exact ⟨-1,by simp (implicitDefEqProofs:=false) only [qy_,p_szSelf,pb,z4_,s12,s97,s98,e0,e1,e2,g0,g1,g2],by omega,by omega⟩
 refine ⟨n2,by simp (implicitDefEqProofs:=false) only [qy_,p_szSelf,pb,z4_,s12,s97,s98,e0,e1,e2,g0,g1,g2],by omega,fun _=>?_⟩
 simp (implicitDefEqProofs:=false) only [ze_,zo_,zH_,z6_,z9_,yK_,Nat.add_zero,Nat.zero_add]
 have:=c0 (by omega)
 have:=c1 (by omega)
 have:=c2 (by omega)
 omega
theorem aJ9_:ToOk ahx_ [.i .i64,.i .i64,.i .i64,.i .i64]:=by
 intro ts ht hb
 obtain ⟨_,_,rfl,⟨x0,rfl,w0⟩,_,_,rfl,⟨x1,rfl,w1⟩,_,_,rfl,⟨x2,rfl,w2⟩,_,_,rfl,⟨x3,rfl,w3⟩,rfl⟩:=xn_ ht
 simp (implicitDefEqProofs:=false) only [ze_,zo_,zH_,z6_,z9_,yK_,Nat.add_zero,Nat.zero_add] at hb
 simp (implicitDefEqProofs:=false) only [ahx_,p_toLink,pb,z4_]
theorem aD7_:ToOk ad3_ [.sl [.i .i64,.i .i64,.i .i64,.i .i64]]:=agt_ (S:=ase_) (w:=4) (g:=179) (zs:=[.k (.int .i64 0),.k (.int .i64 0),.k (.int .i64 0),.k (.int .i64 0)]) (st:=.put true 4 0 4) rfl aJ9_ rfl rfl (fun xs i z vs=>ayc_ (fs:=[.i .i64,.i .i64,.i .i64,.i .i64]) (w:=4) rfl rfl xs i z vs)
theorem aDz_:ToOk ac7_ [.i .i64,.i .i64,.i .i64,.b]:=by
 intro ts ht hb
 obtain ⟨_,_,rfl,⟨x0,rfl,w0⟩,_,_,rfl,⟨x1,rfl,w1⟩,_,_,rfl,⟨x2,rfl,w2⟩,_,_,rfl,⟨x3,rfl⟩,rfl⟩:=xn_ ht
 simp (implicitDefEqProofs:=false) only [ze_,zo_,zH_,z6_,z9_,yK_,Nat.add_zero,Nat.zero_add] at hb
 simp (implicitDefEqProofs:=false) only [ac7_,p_toThing,pb,z4_]
theorem aAu_:ToOk aa3_ [.sl [.i .i64,.i .i64,.i .i64,.b]]:=agt_ (S:=aoj_) (w:=4) (g:=180) (zs:=[.k (.int .i64 0),.k (.int .i64 0),.k (.int .i64 0),.k (.bool false)]) (st:=.put true 4 0 4) rfl aDz_ rfl rfl (fun xs i z vs=>ayc_ (fs:=[.i .i64,.i .i64,.i .i64,.b]) (w:=4) rfl rfl xs i z vs)
theorem aLd_:ToOk ae6_ [.i .i64,.sl [.i .i64,.i .i64,.i .i64,.i .i64],.sl [.i .i64,.i .i64,.i .i64,.b]]:=by
 intro ts ht hb
 obtain ⟨_,_,rfl,⟨x0,rfl,w0⟩,t1,_,rfl,h1,t2,_,rfl,h2,rfl⟩:=xn_ ht
 simp (implicitDefEqProofs:=false) only [ze_,zo_,zH_,z6_,z9_,yK_,Nat.add_zero,Nat.zero_add] at hb
 have s79:aqw_ 79=ad3_:=rfl
 have s80:aqw_ 80=aa3_:=rfl
 have e0:=aD7_ [t1] (xx_ (show WTsU [.sl [.i .i64,.i .i64,.i .i64,.i .i64]] _ from ⟨_,_,rfl,h1,rfl⟩)) (by simp (implicitDefEqProofs:=false) only [ze_,zo_,zH_,z6_,z9_,yK_,Nat.add_zero,Nat.zero_add];omega)
 have e1:=aAu_ [t2] (xx_ (show WTsU [.sl [.i .i64,.i .i64,.i .i64,.b]] _ from ⟨_,_,rfl,h2,rfl⟩)) (by simp (implicitDefEqProofs:=false) only [ze_,zo_,zH_,z6_,z9_,yK_,Nat.add_zero,Nat.zero_add];omega)
 simp (implicitDefEqProofs:=false) only [ae6_,p_toNet,pb,z4_,s79,s80,e0,e1]
theorem aHr_:ToOk ahm_ [.sl [.i .i64]]:=aNm_ (S:=av0_) (z:=.k (.int .i64 0)) rfl rfl
theorem aIr_:ToOk ag0_ [.i .i64,.i .i64]:=by
 intro ts ht hb
 obtain ⟨_,_,rfl,⟨x0,rfl,w0⟩,_,_,rfl,⟨x1,rfl,w1⟩,rfl⟩:=xn_ ht
 simp (implicitDefEqProofs:=false) only [ze_,zo_,zH_,z6_,z9_,yK_,Nat.add_zero,Nat.zero_add] at hb
 simp (implicitDefEqProofs:=false) only [ag0_,p_toNear,pb,z4_]
theorem aDv_:ToOk adq_ [.sl [.i .i64,.i .i64]]:=agt_ (S:=ar9_) (w:=2) (g:=290) (zs:=[.k (.int .i64 0),.k (.int .i64 0)]) (st:=.put true 2 0 2) rfl aIr_ rfl rfl (fun xs i z vs=>ayc_ (fs:=[.i .i64,.i .i64]) (w:=2) rfl rfl xs i z vs)
theorem azx_:ToOk abc_ [.i .i64,.i .i64,.i .i64,.i .i64,.i .i64,.sl [.i .i64,.i .i64],.i .i64,.b]:=by
 intro ts ht hb
 obtain ⟨_,_,rfl,⟨x0,rfl,w0⟩,_,_,rfl,⟨x1,rfl,w1⟩,_,_,rfl,⟨x2,rfl,w2⟩,_,_,rfl,⟨x3,rfl,w3⟩,_,_,rfl,⟨x4,rfl,w4⟩,t5,_,rfl,h5,_,_,rfl,⟨x6,rfl,w6⟩,_,_,rfl,⟨x7,rfl⟩,rfl⟩:=xn_ ht
 simp (implicitDefEqProofs:=false) only [ze_,zo_,zH_,z6_,z9_,yK_,Nat.add_zero,Nat.zero_add] at hb
 have s259:ap7_ 259=adq_:=rfl
 have e0:=aDv_ [t5] (xx_ (show WTsU [.sl [.i .i64,.i .i64]] _ from ⟨_,_,rfl,h5,rfl⟩)) (by simp (implicitDefEqProofs:=false) only [ze_,zo_,zH_,z6_,z9_,yK_,Nat.add_zero,Nat.zero_add];omega)
 simp (implicitDefEqProofs:=false) only [abc_,p_toRecord,pb,z4_,s259,e0]
theorem axf_:ToOk k4_ [.sl [.i .i64,.i .i64,.i .i64,.i .i64,.i .i64,.sl [.i .i64,.i .i64],.i .i64,.b]]:=agt_ (S:=amf_) (w:=8) (g:=200) (zs:=[.k (.int .i64 0),.k (.int .i64 0),.k (.int .i64 0),.k (.int .i64 0),.k (.int .i64 0),.e,.k (.int .i64 0),.k (.bool false)]) (st:=.putD [true,true,true,true,true,false,true,true] 8 0) rfl azx_ rfl rfl (fun xs i z vs=>aPl_ (fs:=[.i .i64,.i .i64,.i .i64,.i .i64,.i .i64,.sl [.i .i64,.i .i64],.i .i64,.b]) (w:=8) rfl rfl xs i z vs)
theorem aHp_:ToOk ab7_ [.i .i64,.i .i64,.i .i64,.sl [.i .i64,.i .i64,.i .i64,.i .i64],.sl [.i .i64,.i .i64,.i .i64,.b],.sl [.i .i64],.sl [.i .i64,.i .i64,.i .i64,.i .i64,.i .i64,.sl [.i .i64,.i .i64],.i .i64,.b]]:=by
 intro ts ht hb
 obtain ⟨_,_,rfl,⟨x0,rfl,w0⟩,_,_,rfl,⟨x1,rfl,w1⟩,_,_,rfl,⟨x2,rfl,w2⟩,t3,_,rfl,h3,t4,_,rfl,h4,t5,_,rfl,h5,t6,_,rfl,h6,rfl⟩:=xn_ ht
 simp (implicitDefEqProofs:=false) only [ze_,zo_,zH_,z6_,z9_,yK_,Nat.add_zero,Nat.zero_add] at hb
 have s14:agy_ 14=ae6_:=rfl
 have s111:agy_ 111=ahm_:=rfl
 have s112:agy_ 112=k4_:=rfl
 have e0:=aLd_ [.c (.int .i64 x2),t3,t4] (xx_ (show WTsU [.i .i64,.sl [.i .i64,.i .i64,.i .i64,.i .i64],.sl [.i .i64,.i .i64,.i .i64,.b]] _ from ⟨_,_,rfl,⟨_,rfl,w2⟩,_,_,rfl,h3,_,_,rfl,h4,rfl⟩)) (by simp (implicitDefEqProofs:=false) only [ze_,zo_,zH_,z6_,z9_,yK_,Nat.add_zero,Nat.zero_add];omega)
 have e1:=aHr_ [t5] (xx_ (show WTsU [.sl [.i .i64]] _ from ⟨_,_,rfl,h5,rfl⟩)) (by simp (implicitDefEqProofs:=false) only [ze_,zo_,zH_,z6_,z9_,yK_,Nat.add_zero,Nat.zero_add];omega)
 have e2:=axf_ [t6] (xx_ (show WTsU [.sl [.i .i64,.i .i64,.i .i64,.i .i64,.i .i64,.sl [.i .i64,.i .i64],.i .i64,.b]] _ from ⟨_,_,rfl,h6,rfl⟩)) (by simp (implicitDefEqProofs:=false) only [ze_,zo_,zH_,z6_,z9_,yK_,Nat.add_zero,Nat.zero_add];omega)
 simp (implicitDefEqProofs:=false) only [ab7_,p_toSelf,pb,z4_,s14,s111,s112,e0,e1,e2]
theorem aHw_:EqOk ai1_ [.sl [.i .i64]]:=aMd_ (S:=awh_) (op:=.bin .neq) aRq_
theorem aKj_:EqOk ai3_ [.i .i64,.i .i64,.i .i64,.i .i64]:=by
 intro ts ht hb
 obtain ⟨_,_,rfl,⟨x0,rfl,w0⟩,_,_,rfl,⟨x1,rfl,w1⟩,_,_,rfl,⟨x2,rfl,w2⟩,_,_,rfl,⟨x3,rfl,w3⟩,rfl⟩:=xn_ ht
 simp (implicitDefEqProofs:=false) only [ze_,zo_,zH_,z6_,z9_,yK_,Nat.add_zero,Nat.zero_add] at hb
 simp (implicitDefEqProofs:=false) only [ai3_,p_eqLink,pb,z4_]
theorem aDj_:EqOk adj_ [.sl [.i .i64,.i .i64,.i .i64,.i .i64]]:=agr_ (S:=arr_) (w:=4) (g:=188) rfl aKj_
theorem aGs_:EqOk adw_ [.i .i64,.i .i64,.i .i64,.b]:=by
 intro ts ht hb
 obtain ⟨_,_,rfl,⟨x0,rfl,w0⟩,_,_,rfl,⟨x1,rfl,w1⟩,_,_,rfl,⟨x2,rfl,w2⟩,_,_,rfl,⟨x3,rfl⟩,rfl⟩:=xn_ ht
 simp (implicitDefEqProofs:=false) only [ze_,zo_,zH_,z6_,z9_,yK_,Nat.add_zero,Nat.zero_add] at hb
 simp (implicitDefEqProofs:=false) only [adw_,p_eqThing,pb,z4_]
theorem aA9_:EqOk abe_ [.sl [.i .i64,.i .i64,.i .i64,.b]]:=agr_ (S:=aox_) (w:=4) (g:=189) rfl aGs_
theorem aNs_:EqOk afz_ [.i .i64,.sl [.i .i64,.i .i64,.i .i64,.i .i64],.sl [.i .i64,.i .i64,.i .i64,.b]]:=by
 intro ts ht hb
 obtain ⟨_,_,rfl,⟨x0,rfl,w0⟩,t1,_,rfl,h1,t2,_,rfl,h2,rfl⟩:=xn_ ht
 simp (implicitDefEqProofs:=false) only [ze_,zo_,zH_,z6_,z9_,yK_,Nat.add_zero,Nat.zero_add] at hb
 have s87:aqr_ 87=adj_:=rfl
 have s88:aqr_ 88=abe_:=rfl
 have e0:=aDj_ [t1] (xx_ (show WTsU [.sl [.i .i64,.i .i64,.i .i64,.i .i64]] _ from ⟨_,_,rfl,h1,rfl⟩)) (by simp (implicitDefEqProofs:=false) only [ze_,zo_,zH_,z6_,z9_,yK_,Nat.add_zero,Nat.zero_add];omega)
 simp only [List.cons_append,List.nil_append] at e0
 have e1:=aA9_ [t2] (xx_ (show WTsU [.sl [.i .i64,.i .i64,.i .i64,.b]] _ from ⟨_,_,rfl,h2,rfl⟩)) (by simp (implicitDefEqProofs:=false) only [ze_,zo_,zH_,z6_,z9_,yK_,Nat.add_zero,Nat.zero_add];omega)
 simp only [List.cons_append,List.nil_append] at e1
 simp (implicitDefEqProofs:=false) only [afz_,p_eqNet,pb,z4_,s87,s88,e0,e1]
theorem aIs_:EqOk agb_ [.i .i64,.i .i64]:=by
 intro ts ht hb
 obtain ⟨_,_,rfl,⟨x0,rfl,w0⟩,_,_,rfl,⟨x1,rfl,w1⟩,rfl⟩:=xn_ ht
 simp (implicitDefEqProofs:=false) only [ze_,zo_,zH_,z6_,z9_,yK_,Nat.add_zero,Nat.zero_add] at hb
 simp (implicitDefEqProofs:=false) only [agb_,p_eqNear,pb,z4_]
theorem aGp_:EqOk adi_ [.sl [.i .i64,.i .i64]]:=agr_ (S:=ar6_) (w:=2) (g:=263) rfl aIs_
theorem ay7_:EqOk aa4_ [.i .i64,.i .i64,.i .i64,.i .i64,.i .i64,.sl [.i .i64,.i .i64],.i .i64,.b]:=by
 intro ts ht hb
 obtain ⟨_,_,rfl,⟨x0,rfl,w0⟩,_,_,rfl,⟨x1,rfl,w1⟩,_,_,rfl,⟨x2,rfl,w2⟩,_,_,rfl,⟨x3,rfl,w3⟩,_,_,rfl,⟨x4,rfl,w4⟩,t5,_,rfl,h5,_,_,rfl,⟨x6,rfl,w6⟩,_,_,rfl,⟨x7,rfl⟩,rfl⟩:=xn_ ht
 simp (implicitDefEqProofs:=false) only [ze_,zo_,zH_,z6_,z9_,yK_,Nat.add_zero,Nat.zero_add] at hb
 have s211:ao3_ 211=adi_:=rfl
 have e0:=aGp_ [t5] (xx_ (show WTsU [.sl [.i .i64,.i .i64]] _ from ⟨_,_,rfl,h5,rfl⟩)) (by simp (implicitDefEqProofs:=false) only [ze_,zo_,zH_,z6_,z9_,yK_,Nat.add_zero,Nat.zero_add];omega)
 simp only [List.cons_append,List.nil_append] at e0
 simp (implicitDefEqProofs:=false) only [aa4_,p_eqRecord,pb,z4_,s211,e0]
theorem akm_:EqOk u3_ [.sl [.i .i64,.i .i64,.i .i64,.i .i64,.i .i64,.sl [.i .i64,.i .i64],.i .i64,.b]]:=agr_ (S:=al5_) (w:=8) (g:=118) rfl ay7_
theorem arz_:EqOk abw_ [.i .i64,.i .i64,.i .i64,.sl [.i .i64,.i .i64,.i .i64,.i .i64],.sl [.i .i64,.i .i64,.i .i64,.b],.sl [.i .i64],.sl [.i .i64,.i .i64,.i .i64,.i .i64,.i .i64,.sl [.i .i64,.i .i64],.i .i64,.b]]:=by
 intro ts ht hb
 obtain ⟨_,_,rfl,⟨x0,rfl,w0⟩,_,_,rfl,⟨x1,rfl,w1⟩,_,_,rfl,⟨x2,rfl,w2⟩,t3,_,rfl,h3,t4,_,rfl,h4,t5,_,rfl,h5,t6,_,rfl,h6,rfl⟩:=xn_ ht
 simp (implicitDefEqProofs:=false) only [ze_,zo_,zH_,z6_,z9_,yK_,Nat.add_zero,Nat.zero_add] at hb
 have s18:ahs_ 18=afz_:=rfl
 have s35:ahs_ 35=u3_:=rfl
 have s67:ahs_ 67=ai1_:=rfl
 have e0:=aNs_ [.c (.int .i64 x2),t3,t4] (xx_ (show WTsU [.i .i64,.sl [.i .i64,.i .i64,.i .i64,.i .i64],.sl [.i .i64,.i .i64,.i .i64,.b]] _ from ⟨_,_,rfl,⟨_,rfl,w2⟩,_,_,rfl,h3,_,_,rfl,h4,rfl⟩)) (by simp (implicitDefEqProofs:=false) only [ze_,zo_,zH_,z6_,z9_,yK_,Nat.add_zero,Nat.zero_add];omega)
 simp only [List.cons_append,List.nil_append] at e0
 have e1:=aHw_ [t5] (xx_ (show WTsU [.sl [.i .i64]] _ from ⟨_,_,rfl,h5,rfl⟩)) (by simp (implicitDefEqProofs:=false) only [ze_,zo_,zH_,z6_,z9_,yK_,Nat.add_zero,Nat.zero_add];omega)
 simp only [List.cons_append,List.nil_append] at e1
 have e2:=akm_ [t6] (xx_ (show WTsU [.sl [.i .i64,.i .i64,.i .i64,.i .i64,.i .i64,.sl [.i .i64,.i .i64],.i .i64,.b]] _ from ⟨_,_,rfl,h6,rfl⟩)) (by simp (implicitDefEqProofs:=false) only [ze_,zo_,zH_,z6_,z9_,yK_,Nat.add_zero,Nat.zero_add];omega)
 simp only [List.cons_append,List.nil_append] at e2
 simp (implicitDefEqProofs:=false) only [abw_,p_eqSelf,pb,z4_,s18,s35,s67,e0,e1,e2]
theorem azd_:aap_ aa5_ [.sl [.i .i64]]:=af5_ (S:=aot_) (fs:=[.i .i64]) (gs:=[]) (trivial) rfl
theorem ax2_:aap_ kZ_ [.sl [.i .i64,.i .i64,.i .i64,.i .i64]]:=af5_ (S:=amk_) (fs:=[.i .i64,.i .i64,.i .i64,.i .i64]) (gs:=[]) (trivial) rfl
theorem ast_:aap_ kr_ [.sl [.i .i64,.i .i64,.i .i64,.b]]:=af5_ (S:=akz_) (fs:=[.i .i64,.i .i64,.i .i64,.b]) (gs:=[]) (trivial) rfl
theorem axs_:aap_ aew_ [.sl [.i .i64,.i .i64]]:=af5_ (S:=amr_) (fs:=[.i .i64,.i .i64]) (gs:=[]) (trivial) rfl
theorem af1_:aap_ vv_ [.sl [.i .i64,.i .i64,.i .i64,.i .i64,.i .i64,.sl [.i .i64,.i .i64],.i .i64,.b]]:=af5_ (S:=aji_) (fs:=[.i .i64,.i .i64,.i .i64,.i .i64,.i .i64,.sl [.i .i64,.i .i64],.i .i64,.b]) (gs:=[121]) (And.intro axs_ (trivial)) rfl
end Go.Proofs.YtiebbbmibbkpcaaGreatC

/- FnExactRenew: what the plain programs say. Conditions: none. -/
import Derived.Test.YtiebbbmibbkpcaaGreatXMR
import Derived.Test.YtiebbbmibbkpcaaGreatKe
import Derived.Test.YtiebbbmibbkpcaaGreatXSZe
namespace Go.Proofs.YtiebbbmibbkpcaaGreatC
set_option linter.unusedVariables false
set_option linter.unusedSimpArgs false
def adx_:List Ty:=aGh_
theorem jb_ (es:List Ty) (hm:mkOk es=true) (hl:es.length≤63) {xs:List (List T)} (hw:∀ r∈xs,WTs es r) (n:Nat):n≤(zf_ (mkR es) n xs).1∧(zf_ (mkR es) n xs).1≤n+64 * zL_ xs :=
 adk_ (g:=mkR es) (xs:=xs) (fun m r hr=>by
  have:=aff_ es m r hm (hw r hr)
  omega) n
theorem aab_ {F:Sem1} {es:List Ty} (hF:aap_ F [.sl es]) (n:Nat) {xs:List (List T)} (hl:xs.length≤maxLen) (hw:∀ r∈xs,WTs es r) (hb:zL_ xs≤1048576) (hn:n≤1000000000) :
  F [.l (zf_ (mkR es) n xs).2,.c (.int .i64 (n:Int))]=some [.c (.int .i64 ((zf_ (mkR es) n xs).1:Int))]:=by
 have hbb:xm_ [T.l xs]≤1048576:=by rw [ze_,zo_,zH_];omega
 have e:=hF n [.l xs] (aIp_ hl hw) hbb (by omega)
 rw [vk_,jM_,ajn_] at e
 exact e
theorem aKt_ (a b c:Int) (n0:Nat) {l1 l2 l3 l4:List (List T)} (h0:n0≤1000)
  (m1:l1.length≤maxLen) (w1:∀ r∈l1,WTs vm_ r) (m2:l2.length≤maxLen) (w2:∀ r∈l2,WTs wD_ r) (m3:l3.length≤maxLen) (w3:∀ r∈l3,WTs yInt r) (m4:l4.length≤maxLen) (w4:∀ r∈l4,WTs yRcd r)
  (hb:zL_ l1+zL_ l2+zL_ l3+zL_ l4≤1048576) {n1 n2 n3 n4:Nat} (q1:n1=(zf_ (mkR vm_) n0 l1).1) (q2:n2=(zf_ (mkR wD_) n1 l2).1) (q3:n3=(zf_ (mkR yInt) n2 l3).1) (q4:n4=(zf_ (mkR yRcd) n3 l4).1) :
  qU_ [.c (.int .i64 a),.c (.int .i64 b),.c (.int .i64 c),.l (zf_ (mkR vm_) n0 l1).2,.l (zf_ (mkR wD_) n1 l2).2,.l (zf_ (mkR yInt) n2 l3).2,.l (zf_ (mkR yRcd) n3 l4).2,.c (.int .i64 (n0:Int))]=some [.c (.int .i64 (n4:Int))]:=by
 have b1:=jb_ vm_ rfl (by decide) w1 n0
 rw [← q1] at b1
 have b2:=jb_ wD_ rfl (by decide) w2 n1
 rw [← q2] at b2
 have b3:=jb_ yInt rfl (by decide) w3 n2
 rw [← q3] at b3
 have b4:=jb_ yRcd rfl (by decide) w4 n3
 rw [← q4] at b4
 have e1:=aab_ (es:=vm_) ax2_ n0 m1 w1 (by omega) (by omega)
 rw [← q1] at e1
 have e2:=aab_ (es:=wD_) ast_ n1 m2 w2 (by omega) (by omega)
 rw [← q2] at e2
 have e3:=aab_ (es:=yInt) azd_ n2 m3 w3 (by omega) (by omega)
 rw [← q3] at e3
 have e4:=aab_ (es:=yRcd) af1_ n3 m4 w4 (by omega) (by omega)
 rw [← q4] at e4
 have z1:¬ ((n1:Int) < 0):=by omega
 have z2:¬ ((n2:Int) < 0):=by omega
 have z3:¬ ((n3:Int) < 0):=by omega
 have z4:¬ ((n4:Int) < 0):=by omega
 have s212:ajs_ 212=kZ_:=rfl
 have s213:ajs_ 213=kr_:=rfl
 have eN:aak_ [.c (.int .i64 c),.l (zf_ (mkR vm_) n0 l1).2,.l (zf_ (mkR wD_) n1 l2).2,.c (.int .i64 (n0:Int))]=some [.c (.int .i64 (n2:Int))]:=by
  simp (implicitDefEqProofs:=false) only [aak_,p_heldNet,pb,z4_,s212,s213,e1,e2,z1,z2]
 have s39:aa6_ 39=vv_:=rfl
 have s71:aa6_ 71=aa5_:=rfl
 have s120:aa6_ 120=aak_:=rfl
 simp (implicitDefEqProofs:=false) only [qU_,p_heldSelf,pb,z4_,s39,s71,s120,eN,e3,e4,z2,z3,z4]
theorem al3_ (ts:List T) (h:WTs adx_ ts):ui_ ts=some [.c (.bool true)]:=by
 obtain ⟨x,rfl,hx⟩:=aR8_ ts h
 have s30:x4_ 30=qy_:=rfl
 have s31:x4_ 31=aae_:=rfl
 have s32:x4_ 32=ab7_:=rfl
 have s33:x4_ 33=aaa_:=rfl
 have s34:x4_ 34=abw_:=rfl
 have s35:x4_ 35=u3_:=rfl
 have s38:x4_ 38=qU_:=rfl
 have s39:x4_ 39=vv_:=rfl
 obtain ⟨n,e1,b1,c1⟩:=aI9_ _ 1048576 h (by omega) (by omega)
 rw [at7_] at c1
 simp only [zZ_,List.cons_append,List.nil_append] at e1 ⊢
 by_cases q:n < 0
 ·simp (implicitDefEqProofs:=false) only [ui_,p_FnExactRenew,pb,z4_,s30,e1,q]
 have c2:=c1 (by omega)
 have hb:q3_ x≤1048576:=by omega
 have e2:=aHp_ _ h (by rw [at7_];exact hb)
 have e3:=arz_ _ h (by rw [at7_];exact hb)
 simp only [zZ_,List.cons_append,List.nil_append] at e2 e3
 have hb0:=hb
 unfold q3_ at hb
 have h1:=kU_ (f:=kA_) x.net.links
 have h2:=kU_ (f:=ju_) x.net.things
 have h3:=kU_ (f:=acp_) x.heard
 have h4:=kU_ (f:=uc_) x.store
 have a1:=aJ6_ x (by omega) (by omega) (by omega) (by omega) (avl_ (by omega))
 have a2:=aH9_ x (by omega) (by omega) (by omega) (by omega) (avl_ (by omega))
 obtain ⟨i1,i2,i3,⟨l1,o1⟩,⟨l2,o2⟩,⟨l3,o3⟩,⟨l4,o4⟩⟩:=hx
 have rk:=aH1_ hb0 o4
 obtain ⟨y1,y2,y3,y4,y5,y6,y7,y8,y9,y10⟩:=rk
 generalize (y9_ x).1=y at a1 a2 y1 y2 y3 y4 y5 y6 y7
 generalize (y9_ x).2=B at a1 a2 y8 y9 y10
 simp only [zZ_,List.cons_append,List.nil_append] at a1 a2
 have okY:awn_ y:=by
  refine ⟨y1 ▸ i1,y2 ▸ i2,?_,?_,?_,?_,⟨by unfold maxLen;omega,y5⟩⟩
  ·rw [y3];exact i3
  ·rw [y3];exact ⟨l1,o1⟩
  ·rw [y3];exact ⟨l2,o2⟩
  ·rw [y4];exact ⟨l3,o3⟩
 have e4:=arz_ _ (aSa_ y okY) (by rw [at7_];exact y7)
 simp only [zZ_,List.cons_append,List.nil_append] at e4
 have hB:=vc_ wRcd y8
 have hwB:WTs [.sl yRcd] [.l (B.map eRcd)]:=aIp_ (by rw [List.length_map];unfold maxLen;omega) hB
 have hbB:zL_ (B.map eRcd)≤1225:=by rw [v1_ bRcd];exact y10
 have e5:=akm_ _ hwB (by rw [ze_,zo_,zH_];omega)
 simp only [List.cons_append,List.nil_append] at e5
 have w1:=vc_ aN6_ o1
 have w2:=vc_ aKq_ o2
 have w3:=vc_ wInt o3
 have w4:=vc_ wRcd o4
 have w5:=vc_ wRcd y5
 have k1:=v1_ aOj_ x.net.links
 have k2:=v1_ aJe_ x.net.things
 have k3:=v1_ bInt x.heard
 have k4:=v1_ bRcd x.store
 have k5:=v1_ bRcd y.store
 unfold q3_ at y7
 rw [y3,y4] at y7 a1 a2 e4
 obtain ⟨n1,q1⟩:∃ n1,n1=(zf_ (mkR vm_) 1 (x.net.links.map zt_)).1:=⟨_,rfl⟩
 have m1:=jb_ vm_ rfl (by decide) w1 1
 rw [← q1] at m1
 obtain ⟨n2,q2⟩:∃ n2,n2=(zf_ (mkR wD_) n1 (x.net.things.map zr_)).1:=⟨_,rfl⟩
 have m2:=jb_ wD_ rfl (by decide) w2 n1
 rw [← q2] at m2
 obtain ⟨n3,q3⟩:∃ n3,n3=(zf_ (mkR yInt) n2 (x.heard.map eInt)).1:=⟨_,rfl⟩
 have m3:=jb_ yInt rfl (by decide) w3 n2
 rw [← q3] at m3
 obtain ⟨n4,q4⟩:∃ n4,n4=(zf_ (mkR yRcd) n3 (x.store.map eRcd)).1:=⟨_,rfl⟩
 have m4:=jb_ yRcd rfl (by decide) w4 n3
 rw [← q4] at m4
 obtain ⟨n5,q5⟩:∃ n5,n5=(zf_ (mkR yRcd) n3 (y.store.map eRcd)).1:=⟨_,rfl⟩
 have m5:=jb_ yRcd rfl (by decide) w5 n3
 rw [← q5] at m5
 have m6:=jb_ yRcd rfl (by decide) hB n5
 rw [k1] at m1;rw [k2] at m2;rw [k3] at m3;rw [k4] at m4;rw [k5] at m5
 have e6:=aKt_ y.id y.boot x.net.n 1 (by omega) (by rw [List.length_map];exact l1) w1 (by rw [List.length_map];exact l2) w2 (by rw [List.length_map];exact l3) w3 (by rw [List.length_map];unfold maxLen;omega) w5 (by rw [k1,k2,k3,k5];omega) q1 q2 q3 q5
 have e7:=aab_ (es:=yRcd) af1_ n5 (by rw [List.length_map];unfold maxLen;omega) hB (by omega) (by omega)
 have e6:qU_ [ii y.id,ii y.boot,ii x.net.n,.l (zf_ (mkR vm_) 1 (x.net.links.map zt_)).2,.l (zf_ (mkR wD_) n1 (x.net.things.map zr_)).2,.l (zf_ (mkR yInt) n2 (x.heard.map eInt)).2,.l (zf_ (mkR yRcd) n3 (y.store.map eRcd)).2,.c (.int .i64 1)]=some [.c (.int .i64 (n5:Int))]:=e6
 have z1:¬ ((n4:Int) < 0):=by omega
 have z2:¬ ((n5:Int) < 0):=by omega
 have z3:¬ (((zf_ (mkR yRcd) n5 (B.map eRcd)).1:Int) < 0):=by omega
 simp (implicitDefEqProofs:=false) only [ui_,p_FnExactRenew,pb,z4_,s30,s31,s32,s33,s34,s35,e1,e2,e3,a1,a2,e4,e5,q]
 refine ki_ (es:=vm_) (flds:=uK_ vm_ 4 0) (cl:=.k (.int .i64 1)) (s:=27) (p:=52) (n:=1) (uf_ vm_ 0 rfl 4) (by decide) rfl rfl (by omega) rfl rfl w1 (by omega) (by omega) fun f=>?_
 rw [← q1]
 refine ki_ (es:=wD_) (flds:=uK_ wD_ 4 0) (cl:=.a 52) (s:=28) (p:=57) (n:=n1) (uf_ wD_ 0 rfl 4) (by decide) rfl rfl (by omega) rfl rfl w2 (by omega) (by omega) fun f=>?_
 rw [← q2]
 refine ki_ (es:=yInt) (flds:=uK_ yInt 1 0) (cl:=.a 57) (s:=29) (p:=62) (n:=n2) (uf_ yInt 0 rfl 1) (by decide) rfl rfl (by omega) rfl rfl w3 (by omega) (by omega) fun f=>?_
 rw [← q3]
 refine ki_ (es:=yRcd) (flds:=uK_ yRcd 8 0) (cl:=.a 62) (s:=30) (p:=67) (n:=n3) (uf_ yRcd 0 rfl 8) (by decide) rfl rfl (by omega) rfl rfl w4 (by omega) (by omega) fun f=>?_
 rw [← q4]
 simp (implicitDefEqProofs:=false) only [pb,z4_,s34,s35,e4,e5,z1]
 refine ki_ (es:=vm_) (flds:=uK_ vm_ 4 0) (cl:=.k (.int .i64 1)) (s:=34) (p:=77) (n:=1) (uf_ vm_ 0 rfl 4) (by decide) rfl rfl (by omega) rfl rfl w1 (by omega) (by omega) fun f=>?_
 rw [← q1]
 refine ki_ (es:=wD_) (flds:=uK_ wD_ 4 0) (cl:=.a 77) (s:=35) (p:=82) (n:=n1) (uf_ wD_ 0 rfl 4) (by decide) rfl rfl (by omega) rfl rfl w2 (by omega) (by omega) fun f=>?_
 rw [← q2]
 refine ki_ (es:=yInt) (flds:=uK_ yInt 1 0) (cl:=.a 82) (s:=36) (p:=87) (n:=n2) (uf_ yInt 0 rfl 1) (by decide) rfl rfl (by omega) rfl rfl w3 (by omega) (by omega) fun f=>?_
 rw [← q3]
 refine ki_ (es:=yRcd) (flds:=uK_ yRcd 8 0) (cl:=.a 87) (s:=37) (p:=92) (n:=n3) (uf_ yRcd 0 rfl 8) (by decide) rfl rfl (by omega) rfl rfl w5 (by omega) (by omega) fun f=>?_
 rw [← q5]
 refine ki_ (es:=yRcd) (flds:=uK_ yRcd 8 0) (cl:=.a 92) (s:=38) (p:=97) (n:=n5) (uf_ yRcd 0 rfl 8) (by decide) rfl rfl (by omega) rfl rfl hB (by omega) (by omega) fun f=>?_
 simp (implicitDefEqProofs:=false) only [pb,z4_,s32,s33,s34,s35,s38,s39,e2,a1,e4,e5,e6,e7,z2,z3]
end Go.Proofs.YtiebbbmibbkpcaaGreatC

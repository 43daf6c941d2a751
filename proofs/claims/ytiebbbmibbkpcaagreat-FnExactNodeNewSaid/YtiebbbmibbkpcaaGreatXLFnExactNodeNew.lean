/- FnExactNodeNew: what the plain programs say. Conditions: none. -/
import Derived.Test.YtiebbbmibbkpcaaGreatXMR
import Derived.Test.YtiebbbmibbkpcaaGreatKe
import Derived.Test.YtiebbbmibbkpcaaGreatXSZe
namespace Go.Proofs.YtiebbbmibbkpcaaGreatC
set_option linter.unusedVariables false
set_option linter.unusedSimpArgs false
def aay_:List Ty:=yNet++[.i .i64,.i .i64]
theorem w2_ (es:List Ty) (hm:mkOk es=true) (hl:es.length≤63) {xs:List (List T)} (hw:∀ r∈xs,WTs es r) (n:Nat):n≤(ze_ (mkR es) n xs).1∧(ze_ (mkR es) n xs).1≤n+64 * zH_ xs :=
 aea_ (g:=mkR es) (xs:=xs) (fun m r hr=>by
  have:=af2_ es m r hm (hw r hr)
  omega) n
theorem aac_ {F:Sem1} {es:List Ty} (hF:kC_ F [.sl es]) (n:Nat) {xs:List (List T)} (hl:xs.length≤maxLen) (hw:∀ r∈xs,WTs es r) (hb:zH_ xs≤1048576) (hn:n≤1000000000) :
  F [.l (ze_ (mkR es) n xs).2,.c (.int .i64 (n:Int))]=some [.c (.int .i64 ((ze_ (mkR es) n xs).1:Int))]:=by
 have hbb:xc_ [T.l xs]≤1048576:=by rw [zo_,zx_,z3_];omega
 have e:=hF n [.l xs] (aR2_ hl hw) hbb (by omega)
 rw [vs_,kb_,akm_] at e
 exact e
theorem aIl_ (a b c:Int) (n0:Nat) {l1 l2 l3 l4:List (List T)} (h0:n0≤1000)
  (m1:l1.length≤maxLen) (w1:∀ r∈l1,WTs wh_ r) (m2:l2.length≤maxLen) (w2:∀ r∈l2,WTs xA_ r) (m3:l3.length≤maxLen) (w3:∀ r∈l3,WTs yInt r) (m4:l4.length≤maxLen) (w4:∀ r∈l4,WTs yRcd r)
  (hb:zH_ l1+zH_ l2+zH_ l3+zH_ l4≤1048576) {n1 n2 n3 n4:Nat} (q1:n1=(ze_ (mkR wh_) n0 l1).1) (q2:n2=(ze_ (mkR xA_) n1 l2).1) (q3:n3=(ze_ (mkR yInt) n2 l3).1) (q4:n4=(ze_ (mkR yRcd) n3 l4).1) :
  kq_ [.c (.int .i64 a),.c (.int .i64 b),.c (.int .i64 c),.l (ze_ (mkR wh_) n0 l1).2,.l (ze_ (mkR xA_) n1 l2).2,.l (ze_ (mkR yInt) n2 l3).2,.l (ze_ (mkR yRcd) n3 l4).2,.c (.int .i64 (n0:Int))]=some [.c (.int .i64 (n4:Int))]:=by
 have b1:=w2_ wh_ rfl (by decide) w1 n0
 rw [← q1] at b1
 have b2:=w2_ xA_ rfl (by decide) w2 n1
 rw [← q2] at b2
 have b3:=w2_ yInt rfl (by decide) w3 n2
 rw [← q3] at b3
 have b4:=w2_ yRcd rfl (by decide) w4 n3
 rw [← q4] at b4
 have e1:=aac_ (es:=wh_) awt_ n0 m1 w1 (by omega) (by omega)
 rw [← q1] at e1
 have e2:=aac_ (es:=xA_) att_ n1 m2 w2 (by omega) (by omega)
 rw [← q2] at e2
 have e3:=aac_ (es:=yInt) aBl_ n2 m3 w3 (by omega) (by omega)
 rw [← q3] at e3
 have e4:=aac_ (es:=yRcd) arm_ n3 m4 w4 (by omega) (by omega)
 rw [← q4] at e4
 have z1:¬ ((n1:Int) < 0):=by omega
 have z2:¬ ((n2:Int) < 0):=by omega
 have z3:¬ ((n3:Int) < 0):=by omega
 have z4:¬ ((n4:Int) < 0):=by omega
 have s212:ajr_ 212=k5_:=rfl
 have s213:ajr_ 213=kp_:=rfl
 have eN:aaj_ [.c (.int .i64 c),.l (ze_ (mkR wh_) n0 l1).2,.l (ze_ (mkR xA_) n1 l2).2,.c (.int .i64 (n0:Int))]=some [.c (.int .i64 (n2:Int))]:=by
  simp (implicitDefEqProofs:=false) only [aaj_,p_heldNet,pb,ym_,s212,s213,e1,e2,z1,z2]
 have s39:aa5_ 39=ju_:=rfl
 have s71:aa5_ 71=aa3_:=rfl
 have s120:aa5_ 120=aaj_:=rfl
 simp (implicitDefEqProofs:=false) only [kq_,p_heldSelf,pb,ym_,s39,s71,s120,eN,e3,e4,z2,z3,z4]
theorem aJ7_ (a b c:Int) (n0:Nat) {l1 l2 l3 l4 l5:List (List T)} (h0:n0≤1000)
  (m1:l1.length≤maxLen) (w1:∀ r∈l1,WTs wh_ r) (m2:l2.length≤maxLen) (w2:∀ r∈l2,WTs xA_ r) (m3:l3.length≤maxLen) (w3:∀ r∈l3,WTs yInt r) (m4:l4.length≤maxLen) (w4:∀ r∈l4,WTs yRcd r) (m5:l5.length≤maxLen) (w5:∀ r∈l5,WTs yEar r)
  (hb:zH_ l1+zH_ l2+zH_ l3+zH_ l4≤1048576) (hb5:zH_ l5≤1048576) {n1 n2 n3 n4 n5:Nat} (q1:n1=(ze_ (mkR wh_) n0 l1).1) (q2:n2=(ze_ (mkR xA_) n1 l2).1) (q3:n3=(ze_ (mkR yInt) n2 l3).1) (q4:n4=(ze_ (mkR yRcd) n3 l4).1) (q5:n5=(ze_ (mkR yEar) n4 l5).1) :
  qN_ [.c (.int .i64 a),.c (.int .i64 b),.c (.int .i64 c),.l (ze_ (mkR wh_) n0 l1).2,.l (ze_ (mkR xA_) n1 l2).2,.l (ze_ (mkR yInt) n2 l3).2,.l (ze_ (mkR yRcd) n3 l4).2,.l (ze_ (mkR yEar) n4 l5).2,.c (.int .i64 (n0:Int))]=some [.c (.int .i64 (n5:Int))]:=by
 have e1:=aIl_ a b c n0 h0 m1 w1 m2 w2 m3 w3 m4 w4 hb q1 q2 q3 q4
 have b1:=w2_ wh_ rfl (by decide) w1 n0
 rw [← q1] at b1
 have b2:=w2_ xA_ rfl (by decide) w2 n1
 rw [← q2] at b2
 have b3:=w2_ yInt rfl (by decide) w3 n2
 rw [← q3] at b3
 have b4:=w2_ yRcd rfl (by decide) w4 n3
 rw [← q4] at b4
 have b5:=w2_ yEar rfl (by decide) w5 n4
 rw [← q5] at b5
 have e2:=aac_ (es:=yEar) aCd_ n4 m5 w5 hb5 (by omega)
 rw [← q5] at e2
 have z4:¬ ((n4:Int) < 0):=by omega
 have z5:¬ ((n5:Int) < 0):=by omega
 have s38:agx_ 38=kq_:=rfl
 have s125:agx_ 125=abh_:=rfl
 simp (implicitDefEqProofs:=false) only [qN_,p_heldNode,pb,ym_,s38,s125,e1,e2,z4,z5]
theorem aQ6_ (ls:List Link) (id n:Int) (hn:n≤6):(∀ e∈x9_ ls id n,aie_ e)∧(x9_ ls id n).length≤18:=by
 refine ⟨?_,agv_ ls id n hn⟩
 have h1:∀ (v:Nat),v < 6→∀ (as:List Nat) (c:List Ear),(∀ a∈as,a < 3)→(∀ e∈c,aie_ e)→∀ e∈as.foldl (xb_ ls id v) c,aie_ e:=by
  intro v hv as
  induction as with
  | nil=>intro c _ h;exact h
  | cons a as ih =>
   intro c ha hc
   rw [List.foldl_cons]
   refine ih _ (fun b hb=>ha b (.tail _ hb)) fun e he=>?_
   unfold xb_ at he
   split at he
   ·rcases List.mem_append.1 he with he | he
    ·exact hc e he
    ·rw [List.mem_singleton] at he
     subst he
     have:=ha a (.head _)
     exact ⟨I64.mk (by show _≤(v:Int)+1;omega) (by show (v:Int)+1 < _;omega),I64.mk (by show _≤(a:Int);omega) (by show (a:Int) < _;omega),(show I64 0 from I64.mk (by decide) (by decide))⟩
   ·exact hc e he
 have h2:∀ (vs:List Nat) (c:List Ear),(∀ v∈vs,v < 6)→(∀ e∈c,aie_ e)→∀ e∈vs.foldl (uo_ ls id) c,aie_ e:=by
  intro vs
  induction vs with
  | nil=>intro c _ h;exact h
  | cons v vs ih =>
   intro c hv hc
   rw [List.foldl_cons]
   exact ih _ (fun b hb=>hv b (.tail _ hb)) (h1 v (hv v (.head _)) _ _ (fun a ha=>List.mem_range.1 ha) hc)
 exact h2 _ _ (fun v hv=>by have:=List.mem_range.1 hv;omega) (by simp)
theorem aPq_ (l:List Ear):blks afw_ l=l.length:=by
 induction l with
 | nil=>rfl
 | cons a m ih=>simp only [blks,ih,afw_,List.length_cons];omega
theorem aGj_ (x:Net) (id boot:Int) (hx:aPa_ x) (hb:afd_ x≤1048576) (hi:I64 id) (ht:I64 boot):aJ3_ (wk_ x id boot).1∧agh_ (wk_ x id boot).1≤1048576:=by
 unfold wk_
 split
 ·rename_i hk
  obtain ⟨n1,hl,htl,hA,hT⟩:=wS_ (show vV_ x=true from (xf_ hk).1)
  have rk:=aKp_ (x:=xO_ x id boot) (by unfold af3_;show blks vl_ x.links+blks wG_ x.things+blks jn_ []+blks w3_ []≤_;unfold afd_ at hb;simp only [blks];omega) (by intro r hr;cases hr)
  obtain ⟨y1,y2,y3,y4,y5,y6,y7,y8,y9,y10⟩:=rk
  have he:=aQ6_ x.links id x.n n1.2
  obtain ⟨i3,l1,l2⟩:=hx
  have g:blks w3_ (yM_ (xO_ x id boot)).1.store≤1050:=by
   unfold yM_
   rw [if_pos hk]
   unfold vL_
   split
   ·rename_i hc
    have hst:=(xf_ hk).2.2.2.2.2
    have hf:=avo_ hk _ hc.1
    show blks w3_ (zv_ same [] _)≤_
    have hP:∀ (l s:List Rcd),(∀ r∈s,zR_ r=true)→(∀ r∈l,zR_ r=true)→∀ r∈zv_ same s l,zR_ r=true:=by
     intro l
     induction l with
     | nil=>intro s h1 _;exact h1
     | cons a l ih =>
      intro s h1 h2
      refine ih (putR s (same a)) (fun r hr=>?_) fun r hr=>h2 r (.tail _ hr)
      rcases v1_ hr with e | hr
      ·rw [e];exact h2 a (.head _)
      ·exact h1 r hr
    have h7:=ang_ fun r hr=>(acu_ (hP _ [] (by simp) hf r hr)).2
    have h8:=hc.2
    show blks w3_ (zv_ same [] _)≤_
    refine Nat.le_trans h7 ?_
    have h8:(zv_ same [] (wa_ (xO_ x id boot) (xC_ (xO_ x id boot) (byR (xO_ x id boot).store (xO_ x id boot).id (ownL (xO_ x id boot)))))).length≤150:=h8
    omega
   ·show blks w3_ []≤_
    simp [blks]
  generalize yM_ (xO_ x id boot)=p at y1 y2 y3 y4 y5 y6 y7 y8 y9 y10 g
  refine ⟨⟨by rw [y1];exact hi,by rw [y2];exact ht,by rw [y3];exact i3,by rw [y3];exact l1,by rw [y3];exact l2,by rw [y4];exact ⟨by simp [xO_],by intro r hr;cases hr⟩,⟨by unfold maxLen;show p.1.store.length≤_;omega,y5⟩,⟨by unfold maxLen;show (x9_ x.links id x.n).length≤_;omega,he.1⟩⟩,?_⟩
  unfold agh_
  have s1:∀ m:List Link,blks vl_ m=m.length:=by
   intro m;induction m with
   | nil=>rfl
   | cons a m ih=>simp only [blks,ih,vl_,List.length_cons];omega
  have s2:∀ m:List Thing,blks wG_ m=m.length:=by
   intro m;induction m with
   | nil=>rfl
   | cons a m ih=>simp only [blks,ih,wG_,List.length_cons];omega
  show blks vl_ p.1.net.links+blks wG_ p.1.net.things+blks jn_ p.1.heard+blks w3_ p.1.store+blks afw_ (x9_ x.links id x.n)≤_
  rw [y3,y4,aPq_,s1,s2]
  show x.links.length+x.things.length+blks jn_ []+_+_≤_
  simp only [blks]
  omega
 ·refine ⟨⟨I64.mk (by decide) (by decide),I64.mk (by decide) (by decide),I64.mk (by decide) (by decide),⟨by simp [ud_],by simp [ud_]⟩,⟨by simp [ud_],by simp [ud_]⟩,⟨by simp [ud_],by simp [ud_]⟩,⟨by simp [ud_],by simp [ud_]⟩,⟨by simp [ud_],by simp [ud_]⟩⟩,by decide⟩
theorem ajp_ (ts:List T) (h0:WTs aay_ ts):vw_ ts=some [.c (.bool true)]:=by
 obtain ⟨ws,us,rfl,h,hu⟩:=ask_ (fs:=yNet) h0
 obtain ⟨_,_,rfl,⟨id,rfl,hid⟩,_,_,rfl,⟨boot,rfl,hbt⟩,rfl⟩:=wo_ hu
 obtain ⟨x,rfl,hx⟩:=dNet ws h
 have s12:xS_ 12=kM_:=rfl
 have s14:xS_ 14=age_:=rfl
 have s18:xS_ 18=kN_:=rfl
 have s28:xS_ 28=acq_:=rfl
 have s40:xS_ 40=jr_:=rfl
 have s41:xS_ 41=jh_:=rfl
 have s42:xS_ 42=qN_:=rfl
 obtain ⟨n,e1,b1,c1⟩:=aM0_ _ 1048576 h (by omega) (by omega)
 rw [bNet] at c1
 simp only [eNet,List.cons_append,List.nil_append] at e1 ⊢
 by_cases q:n < 0
 ·simp (implicitDefEqProofs:=false) only [vw_,p_FnExactNodeNew,pb,ym_,s12,e1,q]
 have c2:=c1 (by omega)
 have hb:afd_ x≤1048576:=by omega
 have e2:=aNu_ _ h (by rw [bNet];exact hb)
 have e3:=ayy_ _ h (by rw [bNet];exact hb)
 simp only [eNet,List.cons_append,List.nil_append] at e2 e3
 have hb0:=hb
 unfold afd_ at hb
 have h1:=anq_ (f:=vl_) x.links
 have h2:=anq_ (f:=wG_) x.things
 have a1:=azh_ x id boot (by omega) (by omega)
 have a2:=aAr_ x id boot (by omega) (by omega)
 obtain ⟨oN,bN⟩:=aGj_ x id boot hx hb0 hid hbt
 generalize (wk_ x id boot).1=y at a1 a2 oN bN
 generalize (wk_ x id boot).2=z at a1 a2
 have e4:=aK8_ _ (aSt_ y oN) (by rw [Go.Proofs.YtiebbbmibbkpcaaGreatC.bNode];exact bN)
 simp only [yz_,List.cons_append,List.nil_append] at a1 a2 e4
 obtain ⟨_,⟨l1,o1⟩,⟨l2,o2⟩⟩:=hx
 obtain ⟨_,_,_,⟨j1,p1⟩,⟨j2,p2⟩,⟨j3,p3⟩,⟨j4,p4⟩,⟨j5,p5⟩⟩:=oN
 have w1:=wJ_ aFp_ o1
 have w2:=wJ_ axd_ o2
 have v1:=wJ_ aFp_ p1
 have v2:=wJ_ axd_ p2
 have v3:=wJ_ wInt p3
 have v4:=wJ_ wRcd p4
 have v5:=wJ_ wEar p5
 have k1:=wI_ aua_ x.links
 have k2:=wI_ aoz_ x.things
 have t1:=wI_ aua_ y.self.net.links
 have t2:=wI_ aoz_ y.self.net.things
 have t3:=wI_ bInt y.self.heard
 have t4:=wI_ bRcd y.self.store
 have t5:=wI_ bEar y.ears
 unfold agh_ at bN
 obtain ⟨n1,q1⟩:∃ n1,n1=(ze_ (mkR wh_) 1 (x.links.map zn_)).1:=⟨_,rfl⟩
 have m1:=w2_ wh_ rfl (by decide) w1 1
 rw [← q1] at m1
 obtain ⟨n2,q2⟩:∃ n2,n2=(ze_ (mkR xA_) n1 (x.things.map zl_)).1:=⟨_,rfl⟩
 have m2:=w2_ xA_ rfl (by decide) w2 n1
 rw [← q2] at m2
 obtain ⟨r1,u1⟩:∃ n1,n1=(ze_ (mkR wh_) 1 (y.self.net.links.map zn_)).1:=⟨_,rfl⟩
 have g1:=w2_ wh_ rfl (by decide) v1 1
 rw [← u1] at g1
 obtain ⟨r2,u2⟩:∃ n2,n2=(ze_ (mkR xA_) r1 (y.self.net.things.map zl_)).1:=⟨_,rfl⟩
 have g2:=w2_ xA_ rfl (by decide) v2 r1
 rw [← u2] at g2
 obtain ⟨r3,u3⟩:∃ n3,n3=(ze_ (mkR yInt) r2 (y.self.heard.map eInt)).1:=⟨_,rfl⟩
 have g3:=w2_ yInt rfl (by decide) v3 r2
 rw [← u3] at g3
 obtain ⟨r4,u4⟩:∃ n4,n4=(ze_ (mkR yRcd) r3 (y.self.store.map eRcd)).1:=⟨_,rfl⟩
 have g4:=w2_ yRcd rfl (by decide) v4 r3
 rw [← u4] at g4
 obtain ⟨r5,u5⟩:∃ n5,n5=(ze_ (mkR yEar) r4 (y.ears.map eEar)).1:=⟨_,rfl⟩
 have g5:=w2_ yEar rfl (by decide) v5 r4
 rw [← u5] at g5
 rw [k1] at m1;rw [k2] at m2;rw [t1] at g1;rw [t2] at g2;rw [t3] at g3;rw [t4] at g4;rw [t5] at g5
 have e6:=aJ7_ y.self.id y.self.boot y.self.net.n 1 (by omega) (by rw [List.length_map];exact j1) v1 (by rw [List.length_map];exact j2) v2 (by rw [List.length_map];exact j3) v3 (by rw [List.length_map];exact j4) v4 (by rw [List.length_map];exact j5) v5 (by rw [t1,t2,t3,t4];omega) (by rw [t5];omega) u1 u2 u3 u4 u5
 have e6:qN_ [ii y.self.id,ii y.self.boot,ii y.self.net.n,.l (ze_ (mkR wh_) 1 (y.self.net.links.map zn_)).2,.l (ze_ (mkR xA_) r1 (y.self.net.things.map zl_)).2,.l (ze_ (mkR yInt) r2 (y.self.heard.map eInt)).2,.l (ze_ (mkR yRcd) r3 (y.self.store.map eRcd)).2,.l (ze_ (mkR yEar) r4 (y.ears.map eEar)).2,.c (.int .i64 1)]=some [.c (.int .i64 (r5:Int))]:=e6
 have z1:¬ ((n2:Int) < 0):=by omega
 have z2:¬ ((r5:Int) < 0):=by omega
 simp (implicitDefEqProofs:=false) only [vw_,p_FnExactNodeNew,pb,ym_,s12,s14,s18,s28,s40,s41,e1,e2,e3,a1,a2,e4,q]
 refine ac6_ (es:=wh_) (flds:=qO_ wh_ 4 0) (cl:=.k (.int .i64 1)) (s:=20) (p:=39) (n:=1) (qQ_ wh_ 0 rfl 4) (by decide) rfl rfl (by omega) rfl rfl w1 (by omega) (by omega) fun f=>?_
 rw [← q1]
 refine ac6_ (es:=xA_) (flds:=qO_ xA_ 4 0) (cl:=.a 39) (s:=21) (p:=44) (n:=n1) (qQ_ xA_ 0 rfl 4) (by decide) rfl rfl (by omega) rfl rfl w2 (by omega) (by omega) fun f=>?_
 rw [← q2]
 simp (implicitDefEqProofs:=false) only [pb,ym_,s28,e4,z1]
 refine ac6_ (es:=wh_) (flds:=qO_ wh_ 4 0) (cl:=.k (.int .i64 1)) (s:=25) (p:=53) (n:=1) (qQ_ wh_ 0 rfl 4) (by decide) rfl rfl (by omega) rfl rfl v1 (by omega) (by omega) fun f=>?_
 rw [← u1]
 refine ac6_ (es:=xA_) (flds:=qO_ xA_ 4 0) (cl:=.a 53) (s:=26) (p:=58) (n:=r1) (qQ_ xA_ 0 rfl 4) (by decide) rfl rfl (by omega) rfl rfl v2 (by omega) (by omega) fun f=>?_
 rw [← u2]
 refine ac6_ (es:=yInt) (flds:=qO_ yInt 1 0) (cl:=.a 58) (s:=27) (p:=63) (n:=r2) (qQ_ yInt 0 rfl 1) (by decide) rfl rfl (by omega) rfl rfl v3 (by omega) (by omega) fun f=>?_
 rw [← u3]
 refine ac6_ (es:=yRcd) (flds:=qO_ yRcd 8 0) (cl:=.a 63) (s:=28) (p:=68) (n:=r3) (qQ_ yRcd 0 rfl 8) (by decide) rfl rfl (by omega) rfl rfl v4 (by omega) (by omega) fun f=>?_
 rw [← u4]
 refine ac6_ (es:=yEar) (flds:=qO_ yEar 4 0) (cl:=.a 68) (s:=29) (p:=73) (n:=r4) (qQ_ yEar 0 rfl 4) (by decide) rfl rfl (by omega) rfl rfl v5 (by omega) (by omega) fun f=>?_
 rw [← u5]
 simp (implicitDefEqProofs:=false) only [pb,ym_,s14,s28,s41,s42,e2,a1,e4,e6,z2]
end Go.Proofs.YtiebbbmibbkpcaaGreatC

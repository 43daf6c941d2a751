/- What the functions of the families sz, to, eq do (printed by a program). Conditions: none. -/
import Derived.Test.YtjimmglpkndemaaGreatXPV
import Derived.Test.YtjimmglpkndemaaGreatKe
namespace Go.Proofs.YtjimmglpkndemaaGreatC
set_option linter.unusedVariables false
set_option linter.unusedSimpArgs false
theorem alG:DT Em [.sl [.i .i64,.i .i64,.i .i64,.i .i64]]:=R3 (S:=TC) (R:=rounds) rfl
theorem alH:DT En [.sl [.i .i64,.i .i64,.i .i64,.b]]:=R3 (S:=TD) (R:=rounds) rfl
theorem alI:DT JL [.i .i64,.sl [.i .i64,.i .i64,.i .i64,.i .i64],.sl [.i .i64,.i .i64,.i .i64,.b]]:=by
 intro ts l ht h_0 h_1
 obtain⟨_,_,rfl,⟨x0,rfl,w0⟩,t1,_,rfl,h1,t2,_,rfl,h2,rfl⟩:=r_ ht
 have Kr:JK 130=Em:=rfl
 have Kt:JK 131=En:=rfl
 obtain⟨n0,e0,b0,c0⟩:=alG [t1] l (lV (show ij [.sl [.i .i64,.i .i64,.i .i64,.i .i64]] _ from⟨_,_,rfl,h1,rfl⟩)) (by omega) (by omega)
 simp only[List.cons_append,List.nil_append,fQ,gL,gG,iA,iB,kX,Nat.add_zero,Nat.zero_add]at e0 c0
 by_cases g0:n0<0
 ·exact⟨-1,by simp(implicitDefEqProofs:=false) only[JL,mN,pb,ia,Kr,Kt,e0,g0],by omega,by omega⟩
 obtain⟨n1,e1,b1,c1⟩:=alH [t2] n0 (lV (show ij [.sl [.i .i64,.i .i64,.i .i64,.b]] _ from⟨_,_,rfl,h2,rfl⟩)) (by omega) (by omega)
 simp only[List.cons_append,List.nil_append,fQ,gL,gG,iA,iB,kX,Nat.add_zero,Nat.zero_add]at e1 c1
 by_cases g1:n1<0
 ·exact⟨-1,by simp(implicitDefEqProofs:=false) only[JL,mN,pb,ia,Kr,Kt,e0,e1,g0,g1],by omega,by omega⟩
 refine⟨n1,by simp(implicitDefEqProofs:=false) only[JL,mN,pb,ia,Kr,Kt,e0,e1,g0,g1],by omega,λ_=>?_⟩
 simp(implicitDefEqProofs:=false) only[fQ,gL,gG,iA,iB,kX,Nat.add_zero,Nat.zero_add]
 have:=c0 (by omega)
 have:=c1 (by omega)
 omega
theorem alJ:uZ Eo [.i .i64,.i .i64,.i .i64,.i .i64]:=by
 intro ts ht hb
 obtain⟨_,_,rfl,⟨x0,rfl,w0⟩,_,_,rfl,⟨x1,rfl,w1⟩,_,_,rfl,⟨x2,rfl,w2⟩,_,_,rfl,⟨x3,rfl,w3⟩,rfl⟩:=r_ ht
 simp(implicitDefEqProofs:=false) only[fQ,gL,gG,iA,iB,kX,Nat.add_zero,Nat.zero_add]at hb
 simp(implicitDefEqProofs:=false) only[Eo,pg,pb,ia]
theorem alK:uZ Ep [.sl [.i .i64,.i .i64,.i .i64,.i .i64]]:=R8 (S:=TE) (w:=4) (g:=206) (zs:=[.k (.int .i64 0),.k (.int .i64 0),.k (.int .i64 0),.k (.int .i64 0)]) (st:=.put true 4 0 4) rfl alJ rfl rfl (λxs i z vs=>R_ (fs:=[.i .i64,.i .i64,.i .i64,.i .i64]) (w:=4) rfl rfl xs i z vs)
theorem alL:uZ Er [.i .i64,.i .i64,.i .i64,.b]:=by
 intro ts ht hb
 obtain⟨_,_,rfl,⟨x0,rfl,w0⟩,_,_,rfl,⟨x1,rfl,w1⟩,_,_,rfl,⟨x2,rfl,w2⟩,_,_,rfl,⟨x3,rfl⟩,rfl⟩:=r_ ht
 simp(implicitDefEqProofs:=false) only[fQ,gL,gG,iA,iB,kX,Nat.add_zero,Nat.zero_add]at hb
 simp(implicitDefEqProofs:=false) only[Er,nB,pb,ia]
theorem alM:uZ Es [.sl [.i .i64,.i .i64,.i .i64,.b]]:=R8 (S:=TF) (w:=4) (g:=207) (zs:=[.k (.int .i64 0),.k (.int .i64 0),.k (.int .i64 0),.k (.bool false)]) (st:=.put true 4 0 4) rfl alL rfl rfl (λxs i z vs=>R_ (fs:=[.i .i64,.i .i64,.i .i64,.b]) (w:=4) rfl rfl xs i z vs)
theorem alN:uZ Av [.i .i64,.sl [.i .i64,.i .i64,.i .i64,.i .i64],.sl [.i .i64,.i .i64,.i .i64,.b]]:=by
 intro ts ht hb
 obtain⟨_,_,rfl,⟨x0,rfl,w0⟩,t1,_,rfl,h1,t2,_,rfl,h2,rfl⟩:=r_ ht
 simp(implicitDefEqProofs:=false) only[fQ,gL,gG,iA,iB,kX,Nat.add_zero,Nat.zero_add]at hb
 have alO:JM 135=Ep:=rfl
 have alP:JM 136=Es:=rfl
 have e0:=alK [t1] (lV (show ij [.sl [.i .i64,.i .i64,.i .i64,.i .i64]] _ from⟨_,_,rfl,h1,rfl⟩)) (by simp(implicitDefEqProofs:=false) only[fQ,gL,gG,iA,iB,kX,Nat.add_zero,Nat.zero_add];omega)
 have e1:=alM [t2] (lV (show ij [.sl [.i .i64,.i .i64,.i .i64,.b]] _ from⟨_,_,rfl,h2,rfl⟩)) (by simp(implicitDefEqProofs:=false) only[fQ,gL,gG,iA,iB,kX,Nat.add_zero,Nat.zero_add];omega)
 simp(implicitDefEqProofs:=false) only[Av,ru,pb,ia,alO,alP,e0,e1]
theorem alQ:iS EI [.i .i64,.i .i64,.i .i64,.i .i64]:=by
 intro ts ht hb
 obtain⟨_,_,rfl,⟨x0,rfl,w0⟩,_,_,rfl,⟨x1,rfl,w1⟩,_,_,rfl,⟨x2,rfl,w2⟩,_,_,rfl,⟨x3,rfl,w3⟩,rfl⟩:=r_ ht
 simp(implicitDefEqProofs:=false) only[fQ,gL,gG,iA,iB,kX,Nat.add_zero,Nat.zero_add]at hb
 simp(implicitDefEqProofs:=false) only[EI,pi,pb,ia]
theorem alR:iS EJ [.sl [.i .i64,.i .i64,.i .i64,.i .i64]]:=I_ (S:=Xu) (w:=4) (g:=208) rfl alQ
theorem alS:iS EK [.i .i64,.i .i64,.i .i64,.b]:=by
 intro ts ht hb
 obtain⟨_,_,rfl,⟨x0,rfl,w0⟩,_,_,rfl,⟨x1,rfl,w1⟩,_,_,rfl,⟨x2,rfl,w2⟩,_,_,rfl,⟨x3,rfl⟩,rfl⟩:=r_ ht
 simp(implicitDefEqProofs:=false) only[fQ,gL,gG,iA,iB,kX,Nat.add_zero,Nat.zero_add]at hb
 simp(implicitDefEqProofs:=false) only[EK,nC,pb,ia]
theorem alT:iS EL [.sl [.i .i64,.i .i64,.i .i64,.b]]:=I_ (S:=Xv) (w:=4) (g:=209) rfl alS
theorem Ku:iS EM [.i .i64,.sl [.i .i64,.i .i64,.i .i64,.i .i64],.sl [.i .i64,.i .i64,.i .i64,.b]]:=by
 intro ts ht hb
 obtain⟨_,_,rfl,⟨x0,rfl,w0⟩,t1,_,rfl,h1,t2,_,rfl,h2,rfl⟩:=r_ ht
 simp(implicitDefEqProofs:=false) only[fQ,gL,gG,iA,iB,kX,Nat.add_zero,Nat.zero_add]at hb
 have alU:Kd 139=EJ:=rfl
 have alV:Kd 140=EL:=rfl
 have e0:=alR [t1] (lV (show ij [.sl [.i .i64,.i .i64,.i .i64,.i .i64]] _ from⟨_,_,rfl,h1,rfl⟩)) (by simp(implicitDefEqProofs:=false) only[fQ,gL,gG,iA,iB,kX,Nat.add_zero,Nat.zero_add];omega)
 simp only[List.cons_append,List.nil_append]at e0
 have e1:=alT [t2] (lV (show ij [.sl [.i .i64,.i .i64,.i .i64,.b]] _ from⟨_,_,rfl,h2,rfl⟩)) (by simp(implicitDefEqProofs:=false) only[fQ,gL,gG,iA,iB,kX,Nat.add_zero,Nat.zero_add];omega)
 simp only[List.cons_append,List.nil_append]at e1
 simp(implicitDefEqProofs:=false) only[EM,rv,pb,ia,alU,alV,e0,e1]
theorem XR:iS EN [.sl [.b]]:=Sb (S:=Xw) (op:=.bb .neq) aeV
theorem Kv:iS GH [.sl [.i .i64]]:=Sb (S:=Xx) (op:=.bin .neq) aeU
theorem alW:iS EO [.i .i64,.i .i64]:=by
 intro ts ht hb
 obtain⟨_,_,rfl,⟨x0,rfl,w0⟩,_,_,rfl,⟨x1,rfl,w1⟩,rfl⟩:=r_ ht
 simp(implicitDefEqProofs:=false) only[fQ,gL,gG,iA,iB,kX,Nat.add_zero,Nat.zero_add]at hb
 simp(implicitDefEqProofs:=false) only[EO,pn,pb,ia]
theorem alX:iS EP [.sl [.i .i64,.i .i64]]:=I_ (S:=Xy) (w:=2) (g:=241) rfl alW
theorem alY:iS EQ [.i .i64,.i .i64,.i .i64,.i .i64,.i .i64,.sl [.i .i64,.i .i64],.i .i64,.b]:=by
 intro ts ht hb
 obtain⟨_,_,rfl,⟨x0,rfl,w0⟩,_,_,rfl,⟨x1,rfl,w1⟩,_,_,rfl,⟨x2,rfl,w2⟩,_,_,rfl,⟨x3,rfl,w3⟩,_,_,rfl,⟨x4,rfl,w4⟩,t5,_,rfl,h5,_,_,rfl,⟨x6,rfl,w6⟩,_,_,rfl,⟨x7,rfl⟩,rfl⟩:=r_ ht
 simp(implicitDefEqProofs:=false) only[fQ,gL,gG,iA,iB,kX,Nat.add_zero,Nat.zero_add]at hb
 have alZ:Xz 232=EP:=rfl
 have e0:=alX [t5] (lV (show ij [.sl [.i .i64,.i .i64]] _ from⟨_,_,rfl,h5,rfl⟩)) (by simp(implicitDefEqProofs:=false) only[fQ,gL,gG,iA,iB,kX,Nat.add_zero,Nat.zero_add];omega)
 simp only[List.cons_append,List.nil_append]at e0
 simp(implicitDefEqProofs:=false) only[EQ,me,pb,ia,alZ,e0]
theorem Kw:iS GI [.sl [.i .i64,.i .i64,.i .i64,.i .i64,.i .i64,.sl [.i .i64,.i .i64],.i .i64,.b]]:=I_ (S:=XA) (w:=8) (g:=202) rfl alY
theorem al0:iS AR [.i .i64,.i .i64,.i .i64,.sl [.i .i64,.i .i64,.i .i64,.i .i64],.sl [.i .i64,.i .i64,.i .i64,.b],.sl [.i .i64],.sl [.i .i64,.i .i64,.i .i64,.i .i64,.i .i64,.sl [.i .i64,.i .i64],.i .i64,.b]]:=by
 intro ts ht hb
 obtain⟨_,_,rfl,⟨x0,rfl,w0⟩,_,_,rfl,⟨x1,rfl,w1⟩,_,_,rfl,⟨x2,rfl,w2⟩,t3,_,rfl,h3,t4,_,rfl,h4,t5,_,rfl,h5,t6,_,rfl,h6,rfl⟩:=r_ ht
 simp(implicitDefEqProofs:=false) only[fQ,gL,gG,iA,iB,kX,Nat.add_zero,Nat.zero_add]at hb
 have B3:ER 48=EM:=rfl
 have AV:ER 128=GH:=rfl
 have AW:ER 129=GI:=rfl
 have e0:=Ku [.c (.int .i64 x2),t3,t4] (lV (show ij [.i .i64,.sl [.i .i64,.i .i64,.i .i64,.i .i64],.sl [.i .i64,.i .i64,.i .i64,.b]] _ from⟨_,_,rfl,⟨_,rfl,w2⟩,_,_,rfl,h3,_,_,rfl,h4,rfl⟩)) (by simp(implicitDefEqProofs:=false) only[fQ,gL,gG,iA,iB,kX,Nat.add_zero,Nat.zero_add];omega)
 simp only[List.cons_append,List.nil_append]at e0
 have e1:=Kv [t5] (lV (show ij [.sl [.i .i64]] _ from⟨_,_,rfl,h5,rfl⟩)) (by simp(implicitDefEqProofs:=false) only[fQ,gL,gG,iA,iB,kX,Nat.add_zero,Nat.zero_add];omega)
 simp only[List.cons_append,List.nil_append]at e1
 have e2:=Kw [t6] (lV (show ij [.sl [.i .i64,.i .i64,.i .i64,.i .i64,.i .i64,.sl [.i .i64,.i .i64],.i .i64,.b]] _ from⟨_,_,rfl,h6,rfl⟩)) (by simp(implicitDefEqProofs:=false) only[fQ,gL,gG,iA,iB,kX,Nat.add_zero,Nat.zero_add];omega)
 simp only[List.cons_append,List.nil_append]at e2
 simp(implicitDefEqProofs:=false) only[AR,po,pb,ia,B3,AV,AW,e0,e1,e2]
theorem al1:iS ES [.i .i64,.i .i64,.i .i64,.b]:=by
 intro ts ht hb
 obtain⟨_,_,rfl,⟨x0,rfl,w0⟩,_,_,rfl,⟨x1,rfl,w1⟩,_,_,rfl,⟨x2,rfl,w2⟩,_,_,rfl,⟨x3,rfl⟩,rfl⟩:=r_ ht
 simp(implicitDefEqProofs:=false) only[fQ,gL,gG,iA,iB,kX,Nat.add_zero,Nat.zero_add]at hb
 simp(implicitDefEqProofs:=false) only[ES,ry,pb,ia]
theorem al2:iS ET [.sl [.i .i64,.i .i64,.i .i64,.b]]:=I_ (S:=XB) (w:=4) (g:=197) rfl al1
theorem al3:iS EU [.i .i64,.i .i64,.i .i64,.sl [.i .i64,.i .i64,.i .i64,.i .i64],.sl [.i .i64,.i .i64,.i .i64,.b],.sl [.i .i64],.sl [.i .i64,.i .i64,.i .i64,.i .i64,.i .i64,.sl [.i .i64,.i .i64],.i .i64,.b],.sl [.i .i64,.i .i64,.i .i64,.b]]:=by
 intro ts ht hb
 obtain⟨_,_,rfl,⟨x0,rfl,w0⟩,_,_,rfl,⟨x1,rfl,w1⟩,_,_,rfl,⟨x2,rfl,w2⟩,t3,_,rfl,h3,t4,_,rfl,h4,t5,_,rfl,h5,t6,_,rfl,h6,t7,_,rfl,h7,rfl⟩:=r_ ht
 simp(implicitDefEqProofs:=false) only[fQ,gL,gG,iA,iB,kX,Nat.add_zero,Nat.zero_add]at hb
 have al4:Kh 114=AR:=rfl
 have al5:Kh 115=ET:=rfl
 have e0:=al0 [.c (.int .i64 x0),.c (.int .i64 x1),.c (.int .i64 x2),t3,t4,t5,t6] (lV (show ij [.i .i64,.i .i64,.i .i64,.sl [.i .i64,.i .i64,.i .i64,.i .i64],.sl [.i .i64,.i .i64,.i .i64,.b],.sl [.i .i64],.sl [.i .i64,.i .i64,.i .i64,.i .i64,.i .i64,.sl [.i .i64,.i .i64],.i .i64,.b]] _ from⟨_,_,rfl,⟨_,rfl,w0⟩,_,_,rfl,⟨_,rfl,w1⟩,_,_,rfl,⟨_,rfl,w2⟩,_,_,rfl,h3,_,_,rfl,h4,_,_,rfl,h5,_,_,rfl,h6,rfl⟩)) (by simp(implicitDefEqProofs:=false) only[fQ,gL,gG,iA,iB,kX,Nat.add_zero,Nat.zero_add];omega)
 simp only[List.cons_append,List.nil_append]at e0
 have e1:=al2 [t7] (lV (show ij [.sl [.i .i64,.i .i64,.i .i64,.b]] _ from⟨_,_,rfl,h7,rfl⟩)) (by simp(implicitDefEqProofs:=false) only[fQ,gL,gG,iA,iB,kX,Nat.add_zero,Nat.zero_add];omega)
 simp only[List.cons_append,List.nil_append]at e1
 simp(implicitDefEqProofs:=false) only[EU,pu,pb,ia,al4,al5,e0,e1]
theorem al6:iS EV [.sl [.i .i64,.i .i64,.i .i64,.sl [.i .i64,.i .i64,.i .i64,.i .i64],.sl [.i .i64,.i .i64,.i .i64,.b],.sl [.i .i64],.sl [.i .i64,.i .i64,.i .i64,.i .i64,.i .i64,.sl [.i .i64,.i .i64],.i .i64,.b],.sl [.i .i64,.i .i64,.i .i64,.b]]]:=I_ (S:=XC) (w:=8) (g:=33) rfl al3
theorem al7:iS EW [.i .i64,.i .i64,.i .i64,.i .i64,.sl [.i .i64],.sl [.i .i64,.i .i64,.i .i64,.i .i64,.i .i64,.sl [.i .i64,.i .i64],.i .i64,.b]]:=by
 intro ts ht hb
 obtain⟨_,_,rfl,⟨x0,rfl,w0⟩,_,_,rfl,⟨x1,rfl,w1⟩,_,_,rfl,⟨x2,rfl,w2⟩,_,_,rfl,⟨x3,rfl,w3⟩,t4,_,rfl,h4,t5,_,rfl,h5,rfl⟩:=r_ ht
 simp(implicitDefEqProofs:=false) only[fQ,gL,gG,iA,iB,kX,Nat.add_zero,Nat.zero_add]at hb
 have AV:Ki 128=GH:=rfl
 have AW:Ki 129=GI:=rfl
 have e0:=Kv [t4] (lV (show ij [.sl [.i .i64]] _ from⟨_,_,rfl,h4,rfl⟩)) (by simp(implicitDefEqProofs:=false) only[fQ,gL,gG,iA,iB,kX,Nat.add_zero,Nat.zero_add];omega)
 simp only[List.cons_append,List.nil_append]at e0
 have e1:=Kw [t5] (lV (show ij [.sl [.i .i64,.i .i64,.i .i64,.i .i64,.i .i64,.sl [.i .i64,.i .i64],.i .i64,.b]] _ from⟨_,_,rfl,h5,rfl⟩)) (by simp(implicitDefEqProofs:=false) only[fQ,gL,gG,iA,iB,kX,Nat.add_zero,Nat.zero_add];omega)
 simp only[List.cons_append,List.nil_append]at e1
 simp(implicitDefEqProofs:=false) only[EW,mf,pb,ia,AV,AW,e0,e1]
theorem al8:iS EX [.sl [.i .i64,.i .i64,.i .i64,.i .i64,.sl [.i .i64],.sl [.i .i64,.i .i64,.i .i64,.i .i64,.i .i64,.sl [.i .i64,.i .i64],.i .i64,.b]]]:=I_ (S:=XD) (w:=6) (g:=41) rfl al7
theorem al9:iS AS [.i .i64,.sl [.i .i64,.i .i64,.i .i64,.i .i64],.sl [.i .i64,.i .i64,.i .i64,.b],.sl [.b],.sl [.b],.sl [.i .i64],.sl [.i .i64,.i .i64,.i .i64,.sl [.i .i64,.i .i64,.i .i64,.i .i64],.sl [.i .i64,.i .i64,.i .i64,.b],.sl [.i .i64],.sl [.i .i64,.i .i64,.i .i64,.i .i64,.i .i64,.sl [.i .i64,.i .i64],.i .i64,.b],.sl [.i .i64,.i .i64,.i .i64,.b]],.sl [.i .i64,.i .i64,.i .i64,.i .i64,.sl [.i .i64],.sl [.i .i64,.i .i64,.i .i64,.i .i64,.i .i64,.sl [.i .i64,.i .i64],.i .i64,.b]],.sl [.i .i64,.i .i64,.i .i64,.i .i64,.i .i64,.sl [.i .i64,.i .i64],.i .i64,.b],.i .i64]:=by
 intro ts ht hb
 obtain⟨_,_,rfl,⟨x0,rfl,w0⟩,t1,_,rfl,h1,t2,_,rfl,h2,t3,_,rfl,h3,t4,_,rfl,h4,t5,_,rfl,h5,t6,_,rfl,h6,t7,_,rfl,h7,t8,_,rfl,h8,_,_,rfl,⟨x9,rfl,w9⟩,rfl⟩:=r_ ht
 simp(implicitDefEqProofs:=false) only[fQ,gL,gG,iA,iB,kX,Nat.add_zero,Nat.zero_add]at hb
 have s34:Kj 34=EX:=rfl
 have B3:Kj 48=EM:=rfl
 have AV:Kj 128=GH:=rfl
 have AW:Kj 129=GI:=rfl
 have al_:Kj 137=EN:=rfl
 have al':Kj 138=EV:=rfl
 have e0:=Ku [.c (.int .i64 x0),t1,t2] (lV (show ij [.i .i64,.sl [.i .i64,.i .i64,.i .i64,.i .i64],.sl [.i .i64,.i .i64,.i .i64,.b]] _ from⟨_,_,rfl,⟨_,rfl,w0⟩,_,_,rfl,h1,_,_,rfl,h2,rfl⟩)) (by simp(implicitDefEqProofs:=false) only[fQ,gL,gG,iA,iB,kX,Nat.add_zero,Nat.zero_add];omega)
 simp only[List.cons_append,List.nil_append]at e0
 have e1:=XR [t3] (lV (show ij [.sl [.b]] _ from⟨_,_,rfl,h3,rfl⟩)) (by simp(implicitDefEqProofs:=false) only[fQ,gL,gG,iA,iB,kX,Nat.add_zero,Nat.zero_add];omega)
 simp only[List.cons_append,List.nil_append]at e1
 have e2:=XR [t4] (lV (show ij [.sl [.b]] _ from⟨_,_,rfl,h4,rfl⟩)) (by simp(implicitDefEqProofs:=false) only[fQ,gL,gG,iA,iB,kX,Nat.add_zero,Nat.zero_add];omega)
 simp only[List.cons_append,List.nil_append]at e2
 have e3:=Kv [t5] (lV (show ij [.sl [.i .i64]] _ from⟨_,_,rfl,h5,rfl⟩)) (by simp(implicitDefEqProofs:=false) only[fQ,gL,gG,iA,iB,kX,Nat.add_zero,Nat.zero_add];omega)
 simp only[List.cons_append,List.nil_append]at e3
 have e4:=al6 [t6] (lV (show ij [.sl [.i .i64,.i .i64,.i .i64,.sl [.i .i64,.i .i64,.i .i64,.i .i64],.sl [.i .i64,.i .i64,.i .i64,.b],.sl [.i .i64],.sl [.i .i64,.i .i64,.i .i64,.i .i64,.i .i64,.sl [.i .i64,.i .i64],.i .i64,.b],.sl [.i .i64,.i .i64,.i .i64,.b]]] _ from⟨_,_,rfl,h6,rfl⟩)) (by simp(implicitDefEqProofs:=false) only[fQ,gL,gG,iA,iB,kX,Nat.add_zero,Nat.zero_add];omega)
 simp only[List.cons_append,List.nil_append]at e4
 have e5:=al8 [t7] (lV (show ij [.sl [.i .i64,.i .i64,.i .i64,.i .i64,.sl [.i .i64],.sl [.i .i64,.i .i64,.i .i64,.i .i64,.i .i64,.sl [.i .i64,.i .i64],.i .i64,.b]]] _ from⟨_,_,rfl,h7,rfl⟩)) (by simp(implicitDefEqProofs:=false) only[fQ,gL,gG,iA,iB,kX,Nat.add_zero,Nat.zero_add];omega)
 simp only[List.cons_append,List.nil_append]at e5
 have e6:=Kw [t8] (lV (show ij [.sl [.i .i64,.i .i64,.i .i64,.i .i64,.i .i64,.sl [.i .i64,.i .i64],.i .i64,.b]] _ from⟨_,_,rfl,h8,rfl⟩)) (by simp(implicitDefEqProofs:=false) only[fQ,gL,gG,iA,iB,kX,Nat.add_zero,Nat.zero_add];omega)
 simp only[List.cons_append,List.nil_append]at e6
 simp(implicitDefEqProofs:=false) only[AS,nD,pb,ia,s34,B3,AV,AW,al_,al',e0,e1,e2,e3,e4,e5,e6]
theorem XS:yk N0 [.sl [.i .i64,.i .i64,.i .i64,.i .i64]]:=D2 (S:=XE) (fs:=[.i .i64,.i .i64,.i .i64,.i .i64]) (gs:=[]) (trivial) rfl
theorem XU:yk XH [.sl [.i .i64,.i .i64,.i .i64,.b]]:=D2 (S:=XG) (fs:=[.i .i64,.i .i64,.i .i64,.b]) (gs:=[]) (trivial) rfl
theorem XV:yk k5_ [.sl [.b]]:=D2 (S:=XJ) (fs:=[.b]) (gs:=[]) (trivial) rfl
theorem Kx:yk N1 [.sl [.i .i64]]:=D2 (S:=XK) (fs:=[.i .i64]) (gs:=[]) (trivial) rfl
theorem ama:yk Km [.sl [.i .i64,.i .i64]]:=D2 (S:=XL) (fs:=[.i .i64,.i .i64]) (gs:=[]) (trivial) rfl
theorem kP_:yk N2 [.sl [.i .i64,.i .i64,.i .i64,.i .i64,.i .i64,.sl [.i .i64,.i .i64],.i .i64,.b]]:=D2 (S:=XM) (fs:=[.i .i64,.i .i64,.i .i64,.i .i64,.i .i64,.sl [.i .i64,.i .i64],.i .i64,.b]) (gs:=[199]) (aj ama (trivial)) rfl
theorem amc:yk Kp [.sl [.i .i64,.i .i64,.i .i64,.b]]:=D2 (S:=XN) (fs:=[.i .i64,.i .i64,.i .i64,.b]) (gs:=[]) (trivial) rfl
theorem amd:yk k8_ [.sl [.i .i64,.i .i64,.i .i64,.sl [.i .i64,.i .i64,.i .i64,.i .i64],.sl [.i .i64,.i .i64,.i .i64,.b],.sl [.i .i64],.sl [.i .i64,.i .i64,.i .i64,.i .i64,.i .i64,.sl [.i .i64,.i .i64],.i .i64,.b],.sl [.i .i64,.i .i64,.i .i64,.b]]]:=D2 (S:=XO) (fs:=[.i .i64,.i .i64,.i .i64,.sl [.i .i64,.i .i64,.i .i64,.i .i64],.sl [.i .i64,.i .i64,.i .i64,.b],.sl [.i .i64],.sl [.i .i64,.i .i64,.i .i64,.i .i64,.i .i64,.sl [.i .i64,.i .i64],.i .i64,.b],.sl [.i .i64,.i .i64,.i .i64,.b]]) (gs:=[210,211,122,123,121]) (aj XS (aj XU (aj Kx (aj kP_ (aj amc (trivial)))))) rfl
theorem ame:yk jF_ [.sl [.i .i64,.i .i64,.i .i64,.i .i64,.sl [.i .i64],.sl [.i .i64,.i .i64,.i .i64,.i .i64,.i .i64,.sl [.i .i64,.i .i64],.i .i64,.b]]]:=D2 (S:=XP) (fs:=[.i .i64,.i .i64,.i .i64,.i .i64,.sl [.i .i64],.sl [.i .i64,.i .i64,.i .i64,.i .i64,.i .i64,.sl [.i .i64,.i .i64],.i .i64,.b]]) (gs:=[122,123]) (aj Kx (aj kP_ (trivial))) rfl
end Go.Proofs.YtjimmglpkndemaaGreatC

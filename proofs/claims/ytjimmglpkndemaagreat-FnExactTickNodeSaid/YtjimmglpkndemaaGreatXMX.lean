/- What the functions of the families sz, to, eq do (printed by a program). Conditions: none. -/
import Derived.Test.YtjimmglpkndemaaGreatXPX
import Derived.Test.YtjimmglpkndemaaGreatKe
namespace Go.Proofs.YtjimmglpkndemaaGreatC
set_option linter.unusedVariables false
set_option linter.unusedSimpArgs false
theorem anF:nU Fe [.sl [.i .i64,.i .i64,.i .i64,.i .i64]]:=Bc (S:=UD) (R:=rounds) rfl
theorem anG:nU Ff [.sl [.i .i64,.i .i64,.i .i64,.b]]:=Bc (S:=UE) (R:=rounds) rfl
theorem anH:nU vV [.i .i64,.sl [.i .i64,.i .i64,.i .i64,.i .i64],.sl [.i .i64,.i .i64,.i .i64,.b]]:=by
 intro ts l ht h_0 h_1
 obtain⟨_,_,rfl,⟨x0,rfl,w0⟩,t1,_,rfl,h1,t2,_,rfl,h2,rfl⟩:=ng ht
 have LG:KZ 130=Fe:=rfl
 have LH:KZ 131=Ff:=rfl
 obtain⟨n0,e0,b0,c0⟩:=anF [t1] l (li (show gu [.sl [.i .i64,.i .i64,.i .i64,.i .i64]] _ from⟨_,_,rfl,h1,rfl⟩)) (by omega) (by omega)
 simp only[List.cons_append,List.nil_append,eU,fG,fy,gB,gF,iP,Nat.add_zero,Nat.zero_add]at e0 c0
 by_cases g0:n0<0
 ·exact⟨-1,by simp(implicitDefEqProofs:=false) only[vV,nh,pb,fS,LG,LH,e0,g0],by omega,by omega⟩
 obtain⟨n1,e1,b1,c1⟩:=anG [t2] n0 (li (show gu [.sl [.i .i64,.i .i64,.i .i64,.b]] _ from⟨_,_,rfl,h2,rfl⟩)) (by omega) (by omega)
 simp only[List.cons_append,List.nil_append,eU,fG,fy,gB,gF,iP,Nat.add_zero,Nat.zero_add]at e1 c1
 by_cases g1:n1<0
 ·exact⟨-1,by simp(implicitDefEqProofs:=false) only[vV,nh,pb,fS,LG,LH,e0,e1,g0,g1],by omega,by omega⟩
 refine⟨n1,by simp(implicitDefEqProofs:=false) only[vV,nh,pb,fS,LG,LH,e0,e1,g0,g1],by omega,λ_=>?_⟩
 simp(implicitDefEqProofs:=false) only[eU,fG,fy,gB,gF,iP,Nat.add_zero,Nat.zero_add]
 have:=c0 (by omega)
 have:=c1 (by omega)
 omega
theorem anK:nU Fg [.sl [.i .i64]]:=Bc (S:=UF) (R:=rounds) rfl
theorem anL:nU Fh [.sl [.i .i64,.i .i64]]:=Bc (S:=UG) (R:=rounds) rfl
theorem anM:nU UI [.i .i64,.i .i64,.i .i64,.i .i64,.i .i64,.sl [.i .i64,.i .i64],.i .i64,.b]:=by
 intro ts l ht h_0 h_1
 obtain⟨_,_,rfl,⟨x0,rfl,w0⟩,_,_,rfl,⟨x1,rfl,w1⟩,_,_,rfl,⟨x2,rfl,w2⟩,_,_,rfl,⟨x3,rfl,w3⟩,_,_,rfl,⟨x4,rfl,w4⟩,t5,_,rfl,h5,_,_,rfl,⟨x6,rfl,w6⟩,_,_,rfl,⟨x7,rfl⟩,rfl⟩:=ng ht
 have ZY:UH 230=Fh:=rfl
 obtain⟨n0,e0,b0,c0⟩:=anL [t5] l (li (show gu [.sl [.i .i64,.i .i64]] _ from⟨_,_,rfl,h5,rfl⟩)) (by omega) (by omega)
 simp only[List.cons_append,List.nil_append,eU,fG,fy,gB,gF,iP,Nat.add_zero,Nat.zero_add]at e0 c0
 by_cases g0:n0<0
 ·exact⟨-1,by simp(implicitDefEqProofs:=false) only[UI,jQ,pb,fS,ZY,e0,g0],by omega,by omega⟩
 refine⟨n0,by simp(implicitDefEqProofs:=false) only[UI,jQ,pb,fS,ZY,e0,g0],by omega,λ_=>?_⟩
 simp(implicitDefEqProofs:=false) only[eU,fG,fy,gB,gF,iP,Nat.add_zero,Nat.zero_add]
 have:=c0 (by omega)
 omega
theorem anN:nU Fi [.sl [.i .i64,.i .i64,.i .i64,.i .i64,.i .i64,.sl [.i .i64,.i .i64],.i .i64,.b]]:=agR (S:=UJ) (w:=8) (g:=200) rfl anM
theorem anO:nU H2 [.i .i64,.i .i64,.i .i64,.sl [.i .i64,.i .i64,.i .i64,.i .i64],.sl [.i .i64,.i .i64,.i .i64,.b],.sl [.i .i64],.sl [.i .i64,.i .i64,.i .i64,.i .i64,.i .i64,.sl [.i .i64,.i .i64],.i .i64,.b]]:=by
 intro ts l ht h_0 h_1
 obtain⟨_,_,rfl,⟨x0,rfl,w0⟩,_,_,rfl,⟨x1,rfl,w1⟩,_,_,rfl,⟨x2,rfl,w2⟩,t3,_,rfl,h3,t4,_,rfl,h4,t5,_,rfl,h5,t6,_,rfl,h6,rfl⟩:=ng ht
 have s43:Fj 43=vV:=rfl
 have F8:Fj 124=Fg:=rfl
 have F9:Fj 125=Fi:=rfl
 obtain⟨n0,e0,b0,c0⟩:=anH [.c (.int .i64 x2),t3,t4] l (li (show gu [.i .i64,.sl [.i .i64,.i .i64,.i .i64,.i .i64],.sl [.i .i64,.i .i64,.i .i64,.b]] _ from⟨_,_,rfl,⟨_,rfl,w2⟩,_,_,rfl,h3,_,_,rfl,h4,rfl⟩)) (by omega) (by omega)
 simp only[List.cons_append,List.nil_append,eU,fG,fy,gB,gF,iP,Nat.add_zero,Nat.zero_add]at e0 c0
 by_cases g0:n0<0
 ·exact⟨-1,by simp(implicitDefEqProofs:=false) only[H2,jK,pb,fS,s43,F8,F9,e0,g0],by omega,by omega⟩
 obtain⟨n1,e1,b1,c1⟩:=anK [t5] n0 (li (show gu [.sl [.i .i64]] _ from⟨_,_,rfl,h5,rfl⟩)) (by omega) (by omega)
 simp only[List.cons_append,List.nil_append,eU,fG,fy,gB,gF,iP,Nat.add_zero,Nat.zero_add]at e1 c1
 by_cases g1:n1<0
 ·exact⟨-1,by simp(implicitDefEqProofs:=false) only[H2,jK,pb,fS,s43,F8,F9,e0,e1,g0,g1],by omega,by omega⟩
 obtain⟨n2,e2,b2,c2⟩:=anN [t6] n1 (li (show gu [.sl [.i .i64,.i .i64,.i .i64,.i .i64,.i .i64,.sl [.i .i64,.i .i64],.i .i64,.b]] _ from⟨_,_,rfl,h6,rfl⟩)) (by omega) (by omega)
 simp only[List.cons_append,List.nil_append,eU,fG,fy,gB,gF,iP,Nat.add_zero,Nat.zero_add]at e2 c2
 by_cases g2:n2<0
 ·exact⟨-1,by simp(implicitDefEqProofs:=false) only[H2,jK,pb,fS,s43,F8,F9,e0,e1,e2,g0,g1,g2],by omega,by omega⟩
 refine⟨n2,by simp(implicitDefEqProofs:=false) only[H2,jK,pb,fS,s43,F8,F9,e0,e1,e2,g0,g1,g2],by omega,λ_=>?_⟩
 simp(implicitDefEqProofs:=false) only[eU,fG,fy,gB,gF,iP,Nat.add_zero,Nat.zero_add]
 have:=c0 (by omega)
 have:=c1 (by omega)
 have:=c2 (by omega)
 omega
theorem anP:nU Fk [.sl [.i .i64,.i .i64,.i .i64,.b]]:=Bc (S:=UK) (R:=rounds) rfl
theorem anQ:nU K3 [.i .i64,.i .i64,.i .i64,.sl [.i .i64,.i .i64,.i .i64,.i .i64],.sl [.i .i64,.i .i64,.i .i64,.b],.sl [.i .i64],.sl [.i .i64,.i .i64,.i .i64,.i .i64,.i .i64,.sl [.i .i64,.i .i64],.i .i64,.b],.sl [.i .i64,.i .i64,.i .i64,.b]]:=by
 intro ts l ht h_0 h_1
 obtain⟨_,_,rfl,⟨x0,rfl,w0⟩,_,_,rfl,⟨x1,rfl,w1⟩,_,_,rfl,⟨x2,rfl,w2⟩,t3,_,rfl,h3,t4,_,rfl,h4,t5,_,rfl,h5,t6,_,rfl,h6,t7,_,rfl,h7,rfl⟩:=ng ht
 have LI:K1 108=H2:=rfl
 have LJ:K1 109=Fk:=rfl
 obtain⟨n0,e0,b0,c0⟩:=anO [.c (.int .i64 x0),.c (.int .i64 x1),.c (.int .i64 x2),t3,t4,t5,t6] l (li (show gu [.i .i64,.i .i64,.i .i64,.sl [.i .i64,.i .i64,.i .i64,.i .i64],.sl [.i .i64,.i .i64,.i .i64,.b],.sl [.i .i64],.sl [.i .i64,.i .i64,.i .i64,.i .i64,.i .i64,.sl [.i .i64,.i .i64],.i .i64,.b]] _ from⟨_,_,rfl,⟨_,rfl,w0⟩,_,_,rfl,⟨_,rfl,w1⟩,_,_,rfl,⟨_,rfl,w2⟩,_,_,rfl,h3,_,_,rfl,h4,_,_,rfl,h5,_,_,rfl,h6,rfl⟩)) (by omega) (by omega)
 simp only[List.cons_append,List.nil_append,eU,fG,fy,gB,gF,iP,Nat.add_zero,Nat.zero_add]at e0 c0
 by_cases g0:n0<0
 ·exact⟨-1,by simp(implicitDefEqProofs:=false) only[K3,lq,pb,fS,LI,LJ,e0,g0],by omega,by omega⟩
 obtain⟨n1,e1,b1,c1⟩:=anP [t7] n0 (li (show gu [.sl [.i .i64,.i .i64,.i .i64,.b]] _ from⟨_,_,rfl,h7,rfl⟩)) (by omega) (by omega)
 simp only[List.cons_append,List.nil_append,eU,fG,fy,gB,gF,iP,Nat.add_zero,Nat.zero_add]at e1 c1
 by_cases g1:n1<0
 ·exact⟨-1,by simp(implicitDefEqProofs:=false) only[K3,lq,pb,fS,LI,LJ,e0,e1,g0,g1],by omega,by omega⟩
 refine⟨n1,by simp(implicitDefEqProofs:=false) only[K3,lq,pb,fS,LI,LJ,e0,e1,g0,g1],by omega,λ_=>?_⟩
 simp(implicitDefEqProofs:=false) only[eU,fG,fy,gB,gF,iP,Nat.add_zero,Nat.zero_add]
 have:=c0 (by omega)
 have:=c1 (by omega)
 omega
theorem anR:lk Fl [.i .i64,.i .i64,.i .i64,.i .i64]:=by
 intro ts ht hb
 obtain⟨_,_,rfl,⟨x0,rfl,w0⟩,_,_,rfl,⟨x1,rfl,w1⟩,_,_,rfl,⟨x2,rfl,w2⟩,_,_,rfl,⟨x3,rfl,w3⟩,rfl⟩:=ng ht
 simp(implicitDefEqProofs:=false) only[eU,fG,fy,gB,gF,iP,Nat.add_zero,Nat.zero_add]at hb
 simp(implicitDefEqProofs:=false) only[Fl,pX,pb,fS]
theorem anS:lk Fm [.sl [.i .i64,.i .i64,.i .i64,.i .i64]]:=Bd (S:=UL) (w:=4) (g:=206) (zs:=[.k (.int .i64 0),.k (.int .i64 0),.k (.int .i64 0),.k (.int .i64 0)]) (st:=.put true 4 0 4) rfl anR rfl rfl (λxs i z vs=>ER (fs:=[.i .i64,.i .i64,.i .i64,.i .i64]) (w:=4) rfl rfl xs i z vs)
theorem anT:lk Fo [.i .i64,.i .i64,.i .i64,.b]:=by
 intro ts ht hb
 obtain⟨_,_,rfl,⟨x0,rfl,w0⟩,_,_,rfl,⟨x1,rfl,w1⟩,_,_,rfl,⟨x2,rfl,w2⟩,_,_,rfl,⟨x3,rfl⟩,rfl⟩:=ng ht
 simp(implicitDefEqProofs:=false) only[eU,fG,fy,gB,gF,iP,Nat.add_zero,Nat.zero_add]at hb
 simp(implicitDefEqProofs:=false) only[Fo,nV,pb,fS]
theorem anU:lk Fp [.sl [.i .i64,.i .i64,.i .i64,.b]]:=Bd (S:=UM) (w:=4) (g:=207) (zs:=[.k (.int .i64 0),.k (.int .i64 0),.k (.int .i64 0),.k (.bool false)]) (st:=.put true 4 0 4) rfl anT rfl rfl (λxs i z vs=>ER (fs:=[.i .i64,.i .i64,.i .i64,.b]) (w:=4) rfl rfl xs i z vs)
theorem anV:lk Bs [.i .i64,.sl [.i .i64,.i .i64,.i .i64,.i .i64],.sl [.i .i64,.i .i64,.i .i64,.b]]:=by
 intro ts ht hb
 obtain⟨_,_,rfl,⟨x0,rfl,w0⟩,t1,_,rfl,h1,t2,_,rfl,h2,rfl⟩:=ng ht
 simp(implicitDefEqProofs:=false) only[eU,fG,fy,gB,gF,iP,Nat.add_zero,Nat.zero_add]at hb
 have anW:K4 135=Fm:=rfl
 have anX:K4 136=Fp:=rfl
 have e0:=anS [t1] (li (show gu [.sl [.i .i64,.i .i64,.i .i64,.i .i64]] _ from⟨_,_,rfl,h1,rfl⟩)) (by simp(implicitDefEqProofs:=false) only[eU,fG,fy,gB,gF,iP,Nat.add_zero,Nat.zero_add];omega)
 have e1:=anU [t2] (li (show gu [.sl [.i .i64,.i .i64,.i .i64,.b]] _ from⟨_,_,rfl,h2,rfl⟩)) (by simp(implicitDefEqProofs:=false) only[eU,fG,fy,gB,gF,iP,Nat.add_zero,Nat.zero_add];omega)
 simp(implicitDefEqProofs:=false) only[Bs,r7,pb,fS,anW,anX,e0,e1]
theorem anY:lk Fq [.sl [.i .i64]]:=agW (S:=UN) (z:=.k (.int .i64 0)) rfl rfl
theorem anZ:lk Ft [.i .i64,.i .i64]:=by
 intro ts ht hb
 obtain⟨_,_,rfl,⟨x0,rfl,w0⟩,_,_,rfl,⟨x1,rfl,w1⟩,rfl⟩:=ng ht
 simp(implicitDefEqProofs:=false) only[eU,fG,fy,gB,gF,iP,Nat.add_zero,Nat.zero_add]at hb
 simp(implicitDefEqProofs:=false) only[Ft,pZ,pb,fS]
theorem an0:lk Fu [.sl [.i .i64,.i .i64]]:=Bd (S:=UO) (w:=2) (g:=240) (zs:=[.k (.int .i64 0),.k (.int .i64 0)]) (st:=.put true 2 0 2) rfl anZ rfl rfl (λxs i z vs=>ER (fs:=[.i .i64,.i .i64]) (w:=2) rfl rfl xs i z vs)
theorem an1:lk Fv [.i .i64,.i .i64,.i .i64,.i .i64,.i .i64,.sl [.i .i64,.i .i64],.i .i64,.b]:=by
 intro ts ht hb
 obtain⟨_,_,rfl,⟨x0,rfl,w0⟩,_,_,rfl,⟨x1,rfl,w1⟩,_,_,rfl,⟨x2,rfl,w2⟩,_,_,rfl,⟨x3,rfl,w3⟩,_,_,rfl,⟨x4,rfl,w4⟩,t5,_,rfl,h5,_,_,rfl,⟨x6,rfl,w6⟩,_,_,rfl,⟨x7,rfl⟩,rfl⟩:=ng ht
 simp(implicitDefEqProofs:=false) only[eU,fG,fy,gB,gF,iP,Nat.add_zero,Nat.zero_add]at hb
 have an2:UP 231=Fu:=rfl
 have e0:=an0 [t5] (li (show gu [.sl [.i .i64,.i .i64]] _ from⟨_,_,rfl,h5,rfl⟩)) (by simp(implicitDefEqProofs:=false) only[eU,fG,fy,gB,gF,iP,Nat.add_zero,Nat.zero_add];omega)
 simp(implicitDefEqProofs:=false) only[Fv,mq,pb,fS,an2,e0]
theorem an3:lk Fw [.sl [.i .i64,.i .i64,.i .i64,.i .i64,.i .i64,.sl [.i .i64,.i .i64],.i .i64,.b]]:=Bd (S:=UQ) (w:=8) (g:=201) (zs:=[.k (.int .i64 0),.k (.int .i64 0),.k (.int .i64 0),.k (.int .i64 0),.k (.int .i64 0),.e,.k (.int .i64 0),.k (.bool false)]) (st:=.gj [true,true,true,true,true,false,true,true] 8 0) rfl an1 rfl rfl (λxs i z vs=>agX (fs:=[.i .i64,.i .i64,.i .i64,.i .i64,.i .i64,.sl [.i .i64,.i .i64],.i .i64,.b]) (w:=8) rfl rfl xs i z vs)
theorem an4:lk Bt [.i .i64,.i .i64,.i .i64,.sl [.i .i64,.i .i64,.i .i64,.i .i64],.sl [.i .i64,.i .i64,.i .i64,.b],.sl [.i .i64],.sl [.i .i64,.i .i64,.i .i64,.i .i64,.i .i64,.sl [.i .i64,.i .i64],.i .i64,.b]]:=by
 intro ts ht hb
 obtain⟨_,_,rfl,⟨x0,rfl,w0⟩,_,_,rfl,⟨x1,rfl,w1⟩,_,_,rfl,⟨x2,rfl,w2⟩,t3,_,rfl,h3,t4,_,rfl,h4,t5,_,rfl,h5,t6,_,rfl,h6,rfl⟩:=ng ht
 simp(implicitDefEqProofs:=false) only[eU,fG,fy,gB,gF,iP,Nat.add_zero,Nat.zero_add]at hb
 have s45:Fx 45=Bs:=rfl
 have an5:Fx 126=Fq:=rfl
 have an6:Fx 127=Fw:=rfl
 have e0:=anV [.c (.int .i64 x2),t3,t4] (li (show gu [.i .i64,.sl [.i .i64,.i .i64,.i .i64,.i .i64],.sl [.i .i64,.i .i64,.i .i64,.b]] _ from⟨_,_,rfl,⟨_,rfl,w2⟩,_,_,rfl,h3,_,_,rfl,h4,rfl⟩)) (by simp(implicitDefEqProofs:=false) only[eU,fG,fy,gB,gF,iP,Nat.add_zero,Nat.zero_add];omega)
 have e1:=anY [t5] (li (show gu [.sl [.i .i64]] _ from⟨_,_,rfl,h5,rfl⟩)) (by simp(implicitDefEqProofs:=false) only[eU,fG,fy,gB,gF,iP,Nat.add_zero,Nat.zero_add];omega)
 have e2:=an3 [t6] (li (show gu [.sl [.i .i64,.i .i64,.i .i64,.i .i64,.i .i64,.sl [.i .i64,.i .i64],.i .i64,.b]] _ from⟨_,_,rfl,h6,rfl⟩)) (by simp(implicitDefEqProofs:=false) only[eU,fG,fy,gB,gF,iP,Nat.add_zero,Nat.zero_add];omega)
 simp(implicitDefEqProofs:=false) only[Bt,p6,pb,fS,s45,an5,an6,e0,e1,e2]
theorem an7:lk Fy [.i .i64,.i .i64,.i .i64,.b]:=by
 intro ts ht hb
 obtain⟨_,_,rfl,⟨x0,rfl,w0⟩,_,_,rfl,⟨x1,rfl,w1⟩,_,_,rfl,⟨x2,rfl,w2⟩,_,_,rfl,⟨x3,rfl⟩,rfl⟩:=ng ht
 simp(implicitDefEqProofs:=false) only[eU,fG,fy,gB,gF,iP,Nat.add_zero,Nat.zero_add]at hb
 simp(implicitDefEqProofs:=false) only[Fy,r8,pb,fS]
theorem an8:lk Fz [.sl [.i .i64,.i .i64,.i .i64,.b]]:=Bd (S:=UR) (w:=4) (g:=196) (zs:=[.k (.int .i64 0),.k (.int .i64 0),.k (.int .i64 0),.k (.bool false)]) (st:=.put true 4 0 4) rfl an7 rfl rfl (λxs i z vs=>ER (fs:=[.i .i64,.i .i64,.i .i64,.b]) (w:=4) rfl rfl xs i z vs)
theorem an9:lk Bu [.i .i64,.i .i64,.i .i64,.sl [.i .i64,.i .i64,.i .i64,.i .i64],.sl [.i .i64,.i .i64,.i .i64,.b],.sl [.i .i64],.sl [.i .i64,.i .i64,.i .i64,.i .i64,.i .i64,.sl [.i .i64,.i .i64],.i .i64,.b],.sl [.i .i64,.i .i64,.i .i64,.b]]:=by
 intro ts ht hb
 obtain⟨_,_,rfl,⟨x0,rfl,w0⟩,_,_,rfl,⟨x1,rfl,w1⟩,_,_,rfl,⟨x2,rfl,w2⟩,t3,_,rfl,h3,t4,_,rfl,h4,t5,_,rfl,h5,t6,_,rfl,h6,t7,_,rfl,h7,rfl⟩:=ng ht
 simp(implicitDefEqProofs:=false) only[eU,fG,fy,gB,gF,iP,Nat.add_zero,Nat.zero_add]at hb
 have an_:K5 112=Bt:=rfl
 have an':K5 113=Fz:=rfl
 have e0:=an4 [.c (.int .i64 x0),.c (.int .i64 x1),.c (.int .i64 x2),t3,t4,t5,t6] (li (show gu [.i .i64,.i .i64,.i .i64,.sl [.i .i64,.i .i64,.i .i64,.i .i64],.sl [.i .i64,.i .i64,.i .i64,.b],.sl [.i .i64],.sl [.i .i64,.i .i64,.i .i64,.i .i64,.i .i64,.sl [.i .i64,.i .i64],.i .i64,.b]] _ from⟨_,_,rfl,⟨_,rfl,w0⟩,_,_,rfl,⟨_,rfl,w1⟩,_,_,rfl,⟨_,rfl,w2⟩,_,_,rfl,h3,_,_,rfl,h4,_,_,rfl,h5,_,_,rfl,h6,rfl⟩)) (by simp(implicitDefEqProofs:=false) only[eU,fG,fy,gB,gF,iP,Nat.add_zero,Nat.zero_add];omega)
 have e1:=an8 [t7] (li (show gu [.sl [.i .i64,.i .i64,.i .i64,.b]] _ from⟨_,_,rfl,h7,rfl⟩)) (by simp(implicitDefEqProofs:=false) only[eU,fG,fy,gB,gF,iP,Nat.add_zero,Nat.zero_add];omega)
 simp(implicitDefEqProofs:=false) only[Bu,p7,pb,fS,an_,an',e0,e1]
theorem aoa:jP FR [.i .i64,.i .i64,.i .i64,.i .i64]:=by
 intro ts ht hb
 obtain⟨_,_,rfl,⟨x0,rfl,w0⟩,_,_,rfl,⟨x1,rfl,w1⟩,_,_,rfl,⟨x2,rfl,w2⟩,_,_,rfl,⟨x3,rfl,w3⟩,rfl⟩:=ng ht
 simp(implicitDefEqProofs:=false) only[eU,fG,fy,gB,gF,iP,Nat.add_zero,Nat.zero_add]at hb
 simp(implicitDefEqProofs:=false) only[FR,p8,pb,fS]
theorem aob:jP FT [.sl [.i .i64,.i .i64,.i .i64,.i .i64]]:=yr (S:=ZB) (w:=4) (g:=208) rfl aoa
theorem aoc:jP FU [.i .i64,.i .i64,.i .i64,.b]:=by
 intro ts ht hb
 obtain⟨_,_,rfl,⟨x0,rfl,w0⟩,_,_,rfl,⟨x1,rfl,w1⟩,_,_,rfl,⟨x2,rfl,w2⟩,_,_,rfl,⟨x3,rfl⟩,rfl⟩:=ng ht
 simp(implicitDefEqProofs:=false) only[eU,fG,fy,gB,gF,iP,Nat.add_zero,Nat.zero_add]at hb
 simp(implicitDefEqProofs:=false) only[FU,nW,pb,fS]
theorem aod:jP FV [.sl [.i .i64,.i .i64,.i .i64,.b]]:=yr (S:=ZC) (w:=4) (g:=209) rfl aoc
theorem aoe:jP BR [.i .i64,.sl [.i .i64,.i .i64,.i .i64,.i .i64],.sl [.i .i64,.i .i64,.i .i64,.b]]:=by
 intro ts ht hb
 obtain⟨_,_,rfl,⟨x0,rfl,w0⟩,t1,_,rfl,h1,t2,_,rfl,h2,rfl⟩:=ng ht
 simp(implicitDefEqProofs:=false) only[eU,fG,fy,gB,gF,iP,Nat.add_zero,Nat.zero_add]at hb
 have aof:Lz 139=FT:=rfl
 have aog:Lz 140=FV:=rfl
 have e0:=aob [t1] (li (show gu [.sl [.i .i64,.i .i64,.i .i64,.i .i64]] _ from⟨_,_,rfl,h1,rfl⟩)) (by simp(implicitDefEqProofs:=false) only[eU,fG,fy,gB,gF,iP,Nat.add_zero,Nat.zero_add];omega)
 simp only[List.cons_append,List.nil_append]at e0
 have e1:=aod [t2] (li (show gu [.sl [.i .i64,.i .i64,.i .i64,.b]] _ from⟨_,_,rfl,h2,rfl⟩)) (by simp(implicitDefEqProofs:=false) only[eU,fG,fy,gB,gF,iP,Nat.add_zero,Nat.zero_add];omega)
 simp only[List.cons_append,List.nil_append]at e1
 simp(implicitDefEqProofs:=false) only[BR,sa,pb,fS,aof,aog,e0,e1]
theorem ZZ:jP yP [.sl [.i .i64]]:=agY (S:=ZD) (op:=.bin .neq) agZ
theorem aoh:jP FW [.i .i64,.i .i64]:=by
 intro ts ht hb
 obtain⟨_,_,rfl,⟨x0,rfl,w0⟩,_,_,rfl,⟨x1,rfl,w1⟩,rfl⟩:=ng ht
 simp(implicitDefEqProofs:=false) only[eU,fG,fy,gB,gF,iP,Nat.add_zero,Nat.zero_add]at hb
 simp(implicitDefEqProofs:=false) only[FW,p_,pb,fS]
theorem aoi:jP FX [.sl [.i .i64,.i .i64]]:=yr (S:=ZF) (w:=2) (g:=241) rfl aoh
theorem aoj:jP FY [.i .i64,.i .i64,.i .i64,.i .i64,.i .i64,.sl [.i .i64,.i .i64],.i .i64,.b]:=by
 intro ts ht hb
 obtain⟨_,_,rfl,⟨x0,rfl,w0⟩,_,_,rfl,⟨x1,rfl,w1⟩,_,_,rfl,⟨x2,rfl,w2⟩,_,_,rfl,⟨x3,rfl,w3⟩,_,_,rfl,⟨x4,rfl,w4⟩,t5,_,rfl,h5,_,_,rfl,⟨x6,rfl,w6⟩,_,_,rfl,⟨x7,rfl⟩,rfl⟩:=ng ht
 simp(implicitDefEqProofs:=false) only[eU,fG,fy,gB,gF,iP,Nat.add_zero,Nat.zero_add]at hb
 have aok:ZG 232=FX:=rfl
 have e0:=aoi [t5] (li (show gu [.sl [.i .i64,.i .i64]] _ from⟨_,_,rfl,h5,rfl⟩)) (by simp(implicitDefEqProofs:=false) only[eU,fG,fy,gB,gF,iP,Nat.add_zero,Nat.zero_add];omega)
 simp only[List.cons_append,List.nil_append]at e0
 simp(implicitDefEqProofs:=false) only[FY,mr,pb,fS,aok,e0]
theorem Z0:jP Pw [.sl [.i .i64,.i .i64,.i .i64,.i .i64,.i .i64,.sl [.i .i64,.i .i64],.i .i64,.b]]:=yr (S:=ZH) (w:=8) (g:=202) rfl aoj
theorem aol:jP BS [.i .i64,.i .i64,.i .i64,.sl [.i .i64,.i .i64,.i .i64,.i .i64],.sl [.i .i64,.i .i64,.i .i64,.b],.sl [.i .i64],.sl [.i .i64,.i .i64,.i .i64,.i .i64,.i .i64,.sl [.i .i64,.i .i64],.i .i64,.b]]:=by
 intro ts ht hb
 obtain⟨_,_,rfl,⟨x0,rfl,w0⟩,_,_,rfl,⟨x1,rfl,w1⟩,_,_,rfl,⟨x2,rfl,w2⟩,t3,_,rfl,h3,t4,_,rfl,h4,t5,_,rfl,h5,t6,_,rfl,h6,rfl⟩:=ng ht
 simp(implicitDefEqProofs:=false) only[eU,fG,fy,gB,gF,iP,Nat.add_zero,Nat.zero_add]at hb
 have s48:FZ 48=BR:=rfl
 have LK:FZ 128=yP:=rfl
 have LL:FZ 129=Pw:=rfl
 have e0:=aoe [.c (.int .i64 x2),t3,t4] (li (show gu [.i .i64,.sl [.i .i64,.i .i64,.i .i64,.i .i64],.sl [.i .i64,.i .i64,.i .i64,.b]] _ from⟨_,_,rfl,⟨_,rfl,w2⟩,_,_,rfl,h3,_,_,rfl,h4,rfl⟩)) (by simp(implicitDefEqProofs:=false) only[eU,fG,fy,gB,gF,iP,Nat.add_zero,Nat.zero_add];omega)
 simp only[List.cons_append,List.nil_append]at e0
 have e1:=ZZ [t5] (li (show gu [.sl [.i .i64]] _ from⟨_,_,rfl,h5,rfl⟩)) (by simp(implicitDefEqProofs:=false) only[eU,fG,fy,gB,gF,iP,Nat.add_zero,Nat.zero_add];omega)
 simp only[List.cons_append,List.nil_append]at e1
 have e2:=Z0 [t6] (li (show gu [.sl [.i .i64,.i .i64,.i .i64,.i .i64,.i .i64,.sl [.i .i64,.i .i64],.i .i64,.b]] _ from⟨_,_,rfl,h6,rfl⟩)) (by simp(implicitDefEqProofs:=false) only[eU,fG,fy,gB,gF,iP,Nat.add_zero,Nat.zero_add];omega)
 simp only[List.cons_append,List.nil_append]at e2
 simp(implicitDefEqProofs:=false) only[BS,qa,pb,fS,s48,LK,LL,e0,e1,e2]
theorem aom:jP F0 [.i .i64,.i .i64,.i .i64,.b]:=by
 intro ts ht hb
 obtain⟨_,_,rfl,⟨x0,rfl,w0⟩,_,_,rfl,⟨x1,rfl,w1⟩,_,_,rfl,⟨x2,rfl,w2⟩,_,_,rfl,⟨x3,rfl⟩,rfl⟩:=ng ht
 simp(implicitDefEqProofs:=false) only[eU,fG,fy,gB,gF,iP,Nat.add_zero,Nat.zero_add]at hb
 simp(implicitDefEqProofs:=false) only[F0,sb,pb,fS]
theorem aon:jP F1 [.sl [.i .i64,.i .i64,.i .i64,.b]]:=yr (S:=ZJ) (w:=4) (g:=197) rfl aom
theorem Z1:jP BT [.i .i64,.i .i64,.i .i64,.sl [.i .i64,.i .i64,.i .i64,.i .i64],.sl [.i .i64,.i .i64,.i .i64,.b],.sl [.i .i64],.sl [.i .i64,.i .i64,.i .i64,.i .i64,.i .i64,.sl [.i .i64,.i .i64],.i .i64,.b],.sl [.i .i64,.i .i64,.i .i64,.b]]:=by
 intro ts ht hb
 obtain⟨_,_,rfl,⟨x0,rfl,w0⟩,_,_,rfl,⟨x1,rfl,w1⟩,_,_,rfl,⟨x2,rfl,w2⟩,t3,_,rfl,h3,t4,_,rfl,h4,t5,_,rfl,h5,t6,_,rfl,h6,t7,_,rfl,h7,rfl⟩:=ng ht
 simp(implicitDefEqProofs:=false) only[eU,fG,fy,gB,gF,iP,Nat.add_zero,Nat.zero_add]at hb
 have aoo:LA 114=BS:=rfl
 have aop:LA 115=F1:=rfl
 have e0:=aol [.c (.int .i64 x0),.c (.int .i64 x1),.c (.int .i64 x2),t3,t4,t5,t6] (li (show gu [.i .i64,.i .i64,.i .i64,.sl [.i .i64,.i .i64,.i .i64,.i .i64],.sl [.i .i64,.i .i64,.i .i64,.b],.sl [.i .i64],.sl [.i .i64,.i .i64,.i .i64,.i .i64,.i .i64,.sl [.i .i64,.i .i64],.i .i64,.b]] _ from⟨_,_,rfl,⟨_,rfl,w0⟩,_,_,rfl,⟨_,rfl,w1⟩,_,_,rfl,⟨_,rfl,w2⟩,_,_,rfl,h3,_,_,rfl,h4,_,_,rfl,h5,_,_,rfl,h6,rfl⟩)) (by simp(implicitDefEqProofs:=false) only[eU,fG,fy,gB,gF,iP,Nat.add_zero,Nat.zero_add];omega)
 simp only[List.cons_append,List.nil_append]at e0
 have e1:=aon [t7] (li (show gu [.sl [.i .i64,.i .i64,.i .i64,.b]] _ from⟨_,_,rfl,h7,rfl⟩)) (by simp(implicitDefEqProofs:=false) only[eU,fG,fy,gB,gF,iP,Nat.add_zero,Nat.zero_add];omega)
 simp only[List.cons_append,List.nil_append]at e1
 simp(implicitDefEqProofs:=false) only[BT,qb,pb,fS,aoo,aop,e0,e1]
theorem aoq:jP F2 [.i .i64,.i .i64,.i .i64,.i .i64,.sl [.i .i64],.sl [.i .i64,.i .i64,.i .i64,.i .i64,.i .i64,.sl [.i .i64,.i .i64],.i .i64,.b]]:=by
 intro ts ht hb
 obtain⟨_,_,rfl,⟨x0,rfl,w0⟩,_,_,rfl,⟨x1,rfl,w1⟩,_,_,rfl,⟨x2,rfl,w2⟩,_,_,rfl,⟨x3,rfl,w3⟩,t4,_,rfl,h4,t5,_,rfl,h5,rfl⟩:=ng ht
 simp(implicitDefEqProofs:=false) only[eU,fG,fy,gB,gF,iP,Nat.add_zero,Nat.zero_add]at hb
 have LK:LB 128=yP:=rfl
 have LL:LB 129=Pw:=rfl
 have e0:=ZZ [t4] (li (show gu [.sl [.i .i64]] _ from⟨_,_,rfl,h4,rfl⟩)) (by simp(implicitDefEqProofs:=false) only[eU,fG,fy,gB,gF,iP,Nat.add_zero,Nat.zero_add];omega)
 simp only[List.cons_append,List.nil_append]at e0
 have e1:=Z0 [t5] (li (show gu [.sl [.i .i64,.i .i64,.i .i64,.i .i64,.i .i64,.sl [.i .i64,.i .i64],.i .i64,.b]] _ from⟨_,_,rfl,h5,rfl⟩)) (by simp(implicitDefEqProofs:=false) only[eU,fG,fy,gB,gF,iP,Nat.add_zero,Nat.zero_add];omega)
 simp only[List.cons_append,List.nil_append]at e1
 simp(implicitDefEqProofs:=false) only[F2,mu,pb,fS,LK,LL,e0,e1]
theorem aor:jP F3 [.sl [.i .i64,.i .i64,.i .i64,.i .i64,.sl [.i .i64],.sl [.i .i64,.i .i64,.i .i64,.i .i64,.i .i64,.sl [.i .i64,.i .i64],.i .i64,.b]]]:=yr (S:=ZK) (w:=6) (g:=41) rfl aoq
theorem aos:C0 F4 [.sl [.i .i64,.i .i64,.i .i64,.i .i64]]:=vQ (S:=ZL) (fs:=[.i .i64,.i .i64,.i .i64,.i .i64]) (gs:=[]) (trivial) rfl
theorem aot:C0 kW_ [.sl [.i .i64,.i .i64,.i .i64,.b]]:=vQ (S:=ZM) (fs:=[.i .i64,.i .i64,.i .i64,.b]) (gs:=[]) (trivial) rfl
theorem Z2:C0 ZO [.sl [.i .i64]]:=vQ (S:=ZN) (fs:=[.i .i64]) (gs:=[]) (trivial) rfl
theorem aou:C0 LD [.sl [.i .i64,.i .i64]]:=vQ (S:=ZQ) (fs:=[.i .i64,.i .i64]) (gs:=[]) (trivial) rfl
theorem Z3:C0 ZS [.sl [.i .i64,.i .i64,.i .i64,.i .i64,.i .i64,.sl [.i .i64,.i .i64],.i .i64,.b]]:=vQ (S:=ZR) (fs:=[.i .i64,.i .i64,.i .i64,.i .i64,.i .i64,.sl [.i .i64,.i .i64],.i .i64,.b]) (gs:=[199]) (az aou (trivial)) rfl
theorem aov:C0 F6 [.sl [.i .i64,.i .i64,.i .i64,.b]]:=vQ (S:=ZV) (fs:=[.i .i64,.i .i64,.i .i64,.b]) (gs:=[]) (trivial) rfl
theorem aow:C0 jU_ [.sl [.i .i64,.i .i64,.i .i64,.i .i64,.sl [.i .i64],.sl [.i .i64,.i .i64,.i .i64,.i .i64,.i .i64,.sl [.i .i64,.i .i64],.i .i64,.b]]]:=vQ (S:=ZW) (fs:=[.i .i64,.i .i64,.i .i64,.i .i64,.sl [.i .i64],.sl [.i .i64,.i .i64,.i .i64,.i .i64,.i .i64,.sl [.i .i64,.i .i64],.i .i64,.b]]) (gs:=[122,123]) (az Z2 (az Z3 (trivial))) rfl
end Go.Proofs.YtjimmglpkndemaaGreatC

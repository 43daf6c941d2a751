/- What the functions of the families sz, to, eq do (printed by a program). Conditions: none. -/
import Derived.Test.YtjimmglpkndemaaGreatXPX
import Derived.Test.YtjimmglpkndemaaGreatKe
namespace Go.Proofs.YtjimmglpkndemaaGreatC
set_option linter.unusedVariables false
set_option linter.unusedSimpArgs false
theorem aqz:nP Hc [.sl [.i .i64,.i .i64,.i .i64,.i .i64]]:=Co (S:=Xa) (R:=rounds) rfl
theorem aqA:nP He [.sl [.i .i64,.i .i64,.i .i64,.b]]:=Co (S:=Xb) (R:=rounds) rfl
theorem aqB:nP xi [.i .i64,.sl [.i .i64,.i .i64,.i .i64,.i .i64],.sl [.i .i64,.i .i64,.i .i64,.b]]:=by
 intro ts l ht h_0 h_1
 obtain⟨_,_,rfl,⟨x0,rfl,w0⟩,t1,_,rfl,h1,t2,_,rfl,h2,rfl⟩:=mJ ht
 have NJ:M2 130=Hc:=rfl
 have NK:M2 131=He:=rfl
 obtain⟨n0,e0,b0,c0⟩:=aqz [t1] l (kq (show fY [.sl [.i .i64,.i .i64,.i .i64,.i .i64]] _ from⟨_,_,rfl,h1,rfl⟩)) (by omega) (by omega)
 simp only[List.cons_append,List.nil_append,fa,fy,fv,gf,gn,iy,Nat.add_zero,Nat.zero_add]at e0 c0
 by_cases g0:n0<0
 ·exact⟨-1,by simp(implicitDefEqProofs:=false) only[xi,nQ,pb,fS,NJ,NK,e0,g0],by omega,by omega⟩
 obtain⟨n1,e1,b1,c1⟩:=aqA [t2] n0 (kq (show fY [.sl [.i .i64,.i .i64,.i .i64,.b]] _ from⟨_,_,rfl,h2,rfl⟩)) (by omega) (by omega)
 simp only[List.cons_append,List.nil_append,fa,fy,fv,gf,gn,iy,Nat.add_zero,Nat.zero_add]at e1 c1
 by_cases g1:n1<0
 ·exact⟨-1,by simp(implicitDefEqProofs:=false) only[xi,nQ,pb,fS,NJ,NK,e0,e1,g0,g1],by omega,by omega⟩
 refine⟨n1,by simp(implicitDefEqProofs:=false) only[xi,nQ,pb,fS,NJ,NK,e0,e1,g0,g1],by omega,λ_=>?_⟩
 simp(implicitDefEqProofs:=false) only[fa,fy,fv,gf,gn,iy,Nat.add_zero,Nat.zero_add]
 have:=c0 (by omega)
 have:=c1 (by omega)
 omega
theorem acT:nP zS [.sl [.i .i64]]:=Co (S:=Xc) (R:=rounds) rfl
theorem aqC:nP Hf [.sl [.i .i64,.i .i64]]:=Co (S:=Xe) (R:=rounds) rfl
theorem aqD:nP CL [.i .i64,.i .i64,.i .i64,.i .i64,.i .i64,.sl [.i .i64,.i .i64],.i .i64,.b]:=by
 intro ts l ht h_0 h_1
 obtain⟨_,_,rfl,⟨x0,rfl,w0⟩,_,_,rfl,⟨x1,rfl,w1⟩,_,_,rfl,⟨x2,rfl,w2⟩,_,_,rfl,⟨x3,rfl,w3⟩,_,_,rfl,⟨x4,rfl,w4⟩,t5,_,rfl,h5,_,_,rfl,⟨x6,rfl,w6⟩,_,_,rfl,⟨x7,rfl⟩,rfl⟩:=mJ ht
 have acU:Xf 230=Hf:=rfl
 obtain⟨n0,e0,b0,c0⟩:=aqC [t5] l (kq (show fY [.sl [.i .i64,.i .i64]] _ from⟨_,_,rfl,h5,rfl⟩)) (by omega) (by omega)
 simp only[List.cons_append,List.nil_append,fa,fy,fv,gf,gn,iy,Nat.add_zero,Nat.zero_add]at e0 c0
 by_cases g0:n0<0
 ·exact⟨-1,by simp(implicitDefEqProofs:=false) only[CL,kF,pb,fS,acU,e0,g0],by omega,by omega⟩
 refine⟨n0,by simp(implicitDefEqProofs:=false) only[CL,kF,pb,fS,acU,e0,g0],by omega,λ_=>?_⟩
 simp(implicitDefEqProofs:=false) only[fa,fy,fv,gf,gn,iy,Nat.add_zero,Nat.zero_add]
 have:=c0 (by omega)
 omega
theorem acV:nP RU [.sl [.i .i64,.i .i64,.i .i64,.i .i64,.i .i64,.sl [.i .i64,.i .i64],.i .i64,.b]]:=ajO (S:=Xg) (w:=8) (g:=200) rfl aqD
theorem aqE:nP J7 [.i .i64,.i .i64,.i .i64,.sl [.i .i64,.i .i64,.i .i64,.i .i64],.sl [.i .i64,.i .i64,.i .i64,.b],.sl [.i .i64],.sl [.i .i64,.i .i64,.i .i64,.i .i64,.i .i64,.sl [.i .i64,.i .i64],.i .i64,.b]]:=by
 intro ts l ht h_0 h_1
 obtain⟨_,_,rfl,⟨x0,rfl,w0⟩,_,_,rfl,⟨x1,rfl,w1⟩,_,_,rfl,⟨x2,rfl,w2⟩,t3,_,rfl,h3,t4,_,rfl,h4,t5,_,rfl,h5,t6,_,rfl,h6,rfl⟩:=mJ ht
 have s43:Hg 43=xi:=rfl
 have vu:Hg 124=zS:=rfl
 have vw:Hg 125=RU:=rfl
 obtain⟨n0,e0,b0,c0⟩:=aqB [.c (.int .i64 x2),t3,t4] l (kq (show fY [.i .i64,.sl [.i .i64,.i .i64,.i .i64,.i .i64],.sl [.i .i64,.i .i64,.i .i64,.b]] _ from⟨_,_,rfl,⟨_,rfl,w2⟩,_,_,rfl,h3,_,_,rfl,h4,rfl⟩)) (by omega) (by omega)
 simp only[List.cons_append,List.nil_append,fa,fy,fv,gf,gn,iy,Nat.add_zero,Nat.zero_add]at e0 c0
 by_cases g0:n0<0
 ·exact⟨-1,by simp(implicitDefEqProofs:=false) only[J7,j_,pb,fS,s43,vu,vw,e0,g0],by omega,by omega⟩
 obtain⟨n1,e1,b1,c1⟩:=acT [t5] n0 (kq (show fY [.sl [.i .i64]] _ from⟨_,_,rfl,h5,rfl⟩)) (by omega) (by omega)
 simp only[List.cons_append,List.nil_append,fa,fy,fv,gf,gn,iy,Nat.add_zero,Nat.zero_add]at e1 c1
 by_cases g1:n1<0
 ·exact⟨-1,by simp(implicitDefEqProofs:=false) only[J7,j_,pb,fS,s43,vu,vw,e0,e1,g0,g1],by omega,by omega⟩
 obtain⟨n2,e2,b2,c2⟩:=acV [t6] n1 (kq (show fY [.sl [.i .i64,.i .i64,.i .i64,.i .i64,.i .i64,.sl [.i .i64,.i .i64],.i .i64,.b]] _ from⟨_,_,rfl,h6,rfl⟩)) (by omega) (by omega)
 simp only[List.cons_append,List.nil_append,fa,fy,fv,gf,gn,iy,Nat.add_zero,Nat.zero_add]at e2 c2
 by_cases g2:n2<0
 ·exact⟨-1,by simp(implicitDefEqProofs:=false) only[J7,j_,pb,fS,s43,vu,vw,e0,e1,e2,g0,g1,g2],by omega,by omega⟩
 refine⟨n2,by simp(implicitDefEqProofs:=false) only[J7,j_,pb,fS,s43,vu,vw,e0,e1,e2,g0,g1,g2],by omega,λ_=>?_⟩
 simp(implicitDefEqProofs:=false) only[fa,fy,fv,gf,gn,iy,Nat.add_zero,Nat.zero_add]
 have:=c0 (by omega)
 have:=c1 (by omega)
 have:=c2 (by omega)
 omega
theorem aqF:nP Hh [.sl [.i .i64,.i .i64,.i .i64,.b]]:=Co (S:=Xi) (R:=rounds) rfl
theorem aqG:nP M4 [.i .i64,.i .i64,.i .i64,.sl [.i .i64,.i .i64,.i .i64,.i .i64],.sl [.i .i64,.i .i64,.i .i64,.b],.sl [.i .i64],.sl [.i .i64,.i .i64,.i .i64,.i .i64,.i .i64,.sl [.i .i64,.i .i64],.i .i64,.b],.sl [.i .i64,.i .i64,.i .i64,.b]]:=by
 intro ts l ht h_0 h_1
 obtain⟨_,_,rfl,⟨x0,rfl,w0⟩,_,_,rfl,⟨x1,rfl,w1⟩,_,_,rfl,⟨x2,rfl,w2⟩,t3,_,rfl,h3,t4,_,rfl,h4,t5,_,rfl,h5,t6,_,rfl,h6,t7,_,rfl,h7,rfl⟩:=mJ ht
 have NL:M3 108=J7:=rfl
 have NM:M3 109=Hh:=rfl
 obtain⟨n0,e0,b0,c0⟩:=aqE [.c (.int .i64 x0),.c (.int .i64 x1),.c (.int .i64 x2),t3,t4,t5,t6] l (kq (show fY [.i .i64,.i .i64,.i .i64,.sl [.i .i64,.i .i64,.i .i64,.i .i64],.sl [.i .i64,.i .i64,.i .i64,.b],.sl [.i .i64],.sl [.i .i64,.i .i64,.i .i64,.i .i64,.i .i64,.sl [.i .i64,.i .i64],.i .i64,.b]] _ from⟨_,_,rfl,⟨_,rfl,w0⟩,_,_,rfl,⟨_,rfl,w1⟩,_,_,rfl,⟨_,rfl,w2⟩,_,_,rfl,h3,_,_,rfl,h4,_,_,rfl,h5,_,_,rfl,h6,rfl⟩)) (by omega) (by omega)
 simp only[List.cons_append,List.nil_append,fa,fy,fv,gf,gn,iy,Nat.add_zero,Nat.zero_add]at e0 c0
 by_cases g0:n0<0
 ·exact⟨-1,by simp(implicitDefEqProofs:=false) only[M4,lR,pb,fS,NL,NM,e0,g0],by omega,by omega⟩
 obtain⟨n1,e1,b1,c1⟩:=aqF [t7] n0 (kq (show fY [.sl [.i .i64,.i .i64,.i .i64,.b]] _ from⟨_,_,rfl,h7,rfl⟩)) (by omega) (by omega)
 simp only[List.cons_append,List.nil_append,fa,fy,fv,gf,gn,iy,Nat.add_zero,Nat.zero_add]at e1 c1
 by_cases g1:n1<0
 ·exact⟨-1,by simp(implicitDefEqProofs:=false) only[M4,lR,pb,fS,NL,NM,e0,e1,g0,g1],by omega,by omega⟩
 refine⟨n1,by simp(implicitDefEqProofs:=false) only[M4,lR,pb,fS,NL,NM,e0,e1,g0,g1],by omega,λ_=>?_⟩
 simp(implicitDefEqProofs:=false) only[fa,fy,fv,gf,gn,iy,Nat.add_zero,Nat.zero_add]
 have:=c0 (by omega)
 have:=c1 (by omega)
 omega
theorem aqH:lu Hi [.i .i64,.i .i64,.i .i64,.i .i64]:=by
 intro ts ht hb
 obtain⟨_,_,rfl,⟨x0,rfl,w0⟩,_,_,rfl,⟨x1,rfl,w1⟩,_,_,rfl,⟨x2,rfl,w2⟩,_,_,rfl,⟨x3,rfl,w3⟩,rfl⟩:=mJ ht
 simp(implicitDefEqProofs:=false) only[fa,fy,fv,gf,gn,iy,Nat.add_zero,Nat.zero_add]at hb
 simp(implicitDefEqProofs:=false) only[Hi,qP,pb,fS]
theorem aqI:lu Hj [.sl [.i .i64,.i .i64,.i .i64,.i .i64]]:=Cp (S:=Xj) (w:=4) (g:=206) (zs:=[.k (.int .i64 0),.k (.int .i64 0),.k (.int .i64 0),.k (.int .i64 0)]) (st:=.put true 4 0 4) rfl aqH rfl rfl (λxs i z vs=>GK (fs:=[.i .i64,.i .i64,.i .i64,.i .i64]) (w:=4) rfl rfl xs i z vs)
theorem aqJ:lu Hk [.i .i64,.i .i64,.i .i64,.b]:=by
 intro ts ht hb
 obtain⟨_,_,rfl,⟨x0,rfl,w0⟩,_,_,rfl,⟨x1,rfl,w1⟩,_,_,rfl,⟨x2,rfl,w2⟩,_,_,rfl,⟨x3,rfl⟩,rfl⟩:=mJ ht
 simp(implicitDefEqProofs:=false) only[fa,fy,fv,gf,gn,iy,Nat.add_zero,Nat.zero_add]at hb
 simp(implicitDefEqProofs:=false) only[Hk,oI,pb,fS]
theorem aqK:lu Hl [.sl [.i .i64,.i .i64,.i .i64,.b]]:=Cp (S:=Xk) (w:=4) (g:=207) (zs:=[.k (.int .i64 0),.k (.int .i64 0),.k (.int .i64 0),.k (.bool false)]) (st:=.put true 4 0 4) rfl aqJ rfl rfl (λxs i z vs=>GK (fs:=[.i .i64,.i .i64,.i .i64,.b]) (w:=4) rfl rfl xs i z vs)
theorem aqL:lu CM [.i .i64,.sl [.i .i64,.i .i64,.i .i64,.i .i64],.sl [.i .i64,.i .i64,.i .i64,.b]]:=by
 intro ts ht hb
 obtain⟨_,_,rfl,⟨x0,rfl,w0⟩,t1,_,rfl,h1,t2,_,rfl,h2,rfl⟩:=mJ ht
 simp(implicitDefEqProofs:=false) only[fa,fy,fv,gf,gn,iy,Nat.add_zero,Nat.zero_add]at hb
 have aqM:M5 135=Hj:=rfl
 have aqN:M5 136=Hl:=rfl
 have e0:=aqI [t1] (kq (show fY [.sl [.i .i64,.i .i64,.i .i64,.i .i64]] _ from⟨_,_,rfl,h1,rfl⟩)) (by simp(implicitDefEqProofs:=false) only[fa,fy,fv,gf,gn,iy,Nat.add_zero,Nat.zero_add];omega)
 have e1:=aqK [t2] (kq (show fY [.sl [.i .i64,.i .i64,.i .i64,.b]] _ from⟨_,_,rfl,h2,rfl⟩)) (by simp(implicitDefEqProofs:=false) only[fa,fy,fv,gf,gn,iy,Nat.add_zero,Nat.zero_add];omega)
 simp(implicitDefEqProofs:=false) only[CM,tq,pb,fS,aqM,aqN,e0,e1]
theorem acW:lu zU [.sl [.i .i64]]:=ajT (S:=Xl) (z:=.k (.int .i64 0)) rfl rfl
theorem aqO:lu Hm [.i .i64,.i .i64]:=by
 intro ts ht hb
 obtain⟨_,_,rfl,⟨x0,rfl,w0⟩,_,_,rfl,⟨x1,rfl,w1⟩,rfl⟩:=mJ ht
 simp(implicitDefEqProofs:=false) only[fa,fy,fv,gf,gn,iy,Nat.add_zero,Nat.zero_add]at hb
 simp(implicitDefEqProofs:=false) only[Hm,qR,pb,fS]
theorem aqP:lu Ho [.sl [.i .i64,.i .i64]]:=Cp (S:=Xn) (w:=2) (g:=240) (zs:=[.k (.int .i64 0),.k (.int .i64 0)]) (st:=.put true 2 0 2) rfl aqO rfl rfl (λxs i z vs=>GK (fs:=[.i .i64,.i .i64]) (w:=2) rfl rfl xs i z vs)
theorem aqQ:lu Hp [.i .i64,.i .i64,.i .i64,.i .i64,.i .i64,.sl [.i .i64,.i .i64],.i .i64,.b]:=by
 intro ts ht hb
 obtain⟨_,_,rfl,⟨x0,rfl,w0⟩,_,_,rfl,⟨x1,rfl,w1⟩,_,_,rfl,⟨x2,rfl,w2⟩,_,_,rfl,⟨x3,rfl,w3⟩,_,_,rfl,⟨x4,rfl,w4⟩,t5,_,rfl,h5,_,_,rfl,⟨x6,rfl,w6⟩,_,_,rfl,⟨x7,rfl⟩,rfl⟩:=mJ ht
 simp(implicitDefEqProofs:=false) only[fa,fy,fv,gf,gn,iy,Nat.add_zero,Nat.zero_add]at hb
 have aqR:Xo 231=Ho:=rfl
 have e0:=aqP [t5] (kq (show fY [.sl [.i .i64,.i .i64]] _ from⟨_,_,rfl,h5,rfl⟩)) (by simp(implicitDefEqProofs:=false) only[fa,fy,fv,gf,gn,iy,Nat.add_zero,Nat.zero_add];omega)
 simp(implicitDefEqProofs:=false) only[Hp,mT,pb,fS,aqR,e0]
theorem acX:lu RV [.sl [.i .i64,.i .i64,.i .i64,.i .i64,.i .i64,.sl [.i .i64,.i .i64],.i .i64,.b]]:=Cp (S:=Xp) (w:=8) (g:=201) (zs:=[.k (.int .i64 0),.k (.int .i64 0),.k (.int .i64 0),.k (.int .i64 0),.k (.int .i64 0),.e,.k (.int .i64 0),.k (.bool false)]) (st:=.gH [true,true,true,true,true,false,true,true] 8 0) rfl aqQ rfl rfl (λxs i z vs=>ajU (fs:=[.i .i64,.i .i64,.i .i64,.i .i64,.i .i64,.sl [.i .i64,.i .i64],.i .i64,.b]) (w:=8) rfl rfl xs i z vs)
theorem aqS:lu CN [.i .i64,.i .i64,.i .i64,.sl [.i .i64,.i .i64,.i .i64,.i .i64],.sl [.i .i64,.i .i64,.i .i64,.b],.sl [.i .i64],.sl [.i .i64,.i .i64,.i .i64,.i .i64,.i .i64,.sl [.i .i64,.i .i64],.i .i64,.b]]:=by
 intro ts ht hb
 obtain⟨_,_,rfl,⟨x0,rfl,w0⟩,_,_,rfl,⟨x1,rfl,w1⟩,_,_,rfl,⟨x2,rfl,w2⟩,t3,_,rfl,h3,t4,_,rfl,h4,t5,_,rfl,h5,t6,_,rfl,h6,rfl⟩:=mJ ht
 simp(implicitDefEqProofs:=false) only[fa,fy,fv,gf,gn,iy,Nat.add_zero,Nat.zero_add]at hb
 have s45:Hq 45=CM:=rfl
 have NN:Hq 126=zU:=rfl
 have NO:Hq 127=RV:=rfl
 have e0:=aqL [.c (.int .i64 x2),t3,t4] (kq (show fY [.i .i64,.sl [.i .i64,.i .i64,.i .i64,.i .i64],.sl [.i .i64,.i .i64,.i .i64,.b]] _ from⟨_,_,rfl,⟨_,rfl,w2⟩,_,_,rfl,h3,_,_,rfl,h4,rfl⟩)) (by simp(implicitDefEqProofs:=false) only[fa,fy,fv,gf,gn,iy,Nat.add_zero,Nat.zero_add];omega)
 have e1:=acW [t5] (kq (show fY [.sl [.i .i64]] _ from⟨_,_,rfl,h5,rfl⟩)) (by simp(implicitDefEqProofs:=false) only[fa,fy,fv,gf,gn,iy,Nat.add_zero,Nat.zero_add];omega)
 have e2:=acX [t6] (kq (show fY [.sl [.i .i64,.i .i64,.i .i64,.i .i64,.i .i64,.sl [.i .i64,.i .i64],.i .i64,.b]] _ from⟨_,_,rfl,h6,rfl⟩)) (by simp(implicitDefEqProofs:=false) only[fa,fy,fv,gf,gn,iy,Nat.add_zero,Nat.zero_add];omega)
 simp(implicitDefEqProofs:=false) only[CN,qS,pb,fS,s45,NN,NO,e0,e1,e2]
theorem aqT:lu Hr [.i .i64,.i .i64,.i .i64,.b]:=by
 intro ts ht hb
 obtain⟨_,_,rfl,⟨x0,rfl,w0⟩,_,_,rfl,⟨x1,rfl,w1⟩,_,_,rfl,⟨x2,rfl,w2⟩,_,_,rfl,⟨x3,rfl⟩,rfl⟩:=mJ ht
 simp(implicitDefEqProofs:=false) only[fa,fy,fv,gf,gn,iy,Nat.add_zero,Nat.zero_add]at hb
 simp(implicitDefEqProofs:=false) only[Hr,tv,pb,fS]
theorem aqU:lu Hs [.sl [.i .i64,.i .i64,.i .i64,.b]]:=Cp (S:=Xr) (w:=4) (g:=196) (zs:=[.k (.int .i64 0),.k (.int .i64 0),.k (.int .i64 0),.k (.bool false)]) (st:=.put true 4 0 4) rfl aqT rfl rfl (λxs i z vs=>GK (fs:=[.i .i64,.i .i64,.i .i64,.b]) (w:=4) rfl rfl xs i z vs)
theorem aqV:lu CO [.i .i64,.i .i64,.i .i64,.sl [.i .i64,.i .i64,.i .i64,.i .i64],.sl [.i .i64,.i .i64,.i .i64,.b],.sl [.i .i64],.sl [.i .i64,.i .i64,.i .i64,.i .i64,.i .i64,.sl [.i .i64,.i .i64],.i .i64,.b],.sl [.i .i64,.i .i64,.i .i64,.b]]:=by
 intro ts ht hb
 obtain⟨_,_,rfl,⟨x0,rfl,w0⟩,_,_,rfl,⟨x1,rfl,w1⟩,_,_,rfl,⟨x2,rfl,w2⟩,t3,_,rfl,h3,t4,_,rfl,h4,t5,_,rfl,h5,t6,_,rfl,h6,t7,_,rfl,h7,rfl⟩:=mJ ht
 simp(implicitDefEqProofs:=false) only[fa,fy,fv,gf,gn,iy,Nat.add_zero,Nat.zero_add]at hb
 have aqW:M6 112=CN:=rfl
 have aqX:M6 113=Hs:=rfl
 have e0:=aqS [.c (.int .i64 x0),.c (.int .i64 x1),.c (.int .i64 x2),t3,t4,t5,t6] (kq (show fY [.i .i64,.i .i64,.i .i64,.sl [.i .i64,.i .i64,.i .i64,.i .i64],.sl [.i .i64,.i .i64,.i .i64,.b],.sl [.i .i64],.sl [.i .i64,.i .i64,.i .i64,.i .i64,.i .i64,.sl [.i .i64,.i .i64],.i .i64,.b]] _ from⟨_,_,rfl,⟨_,rfl,w0⟩,_,_,rfl,⟨_,rfl,w1⟩,_,_,rfl,⟨_,rfl,w2⟩,_,_,rfl,h3,_,_,rfl,h4,_,_,rfl,h5,_,_,rfl,h6,rfl⟩)) (by simp(implicitDefEqProofs:=false) only[fa,fy,fv,gf,gn,iy,Nat.add_zero,Nat.zero_add];omega)
 have e1:=aqU [t7] (kq (show fY [.sl [.i .i64,.i .i64,.i .i64,.b]] _ from⟨_,_,rfl,h7,rfl⟩)) (by simp(implicitDefEqProofs:=false) only[fa,fy,fv,gf,gn,iy,Nat.add_zero,Nat.zero_add];omega)
 simp(implicitDefEqProofs:=false) only[CO,qT,pb,fS,aqW,aqX,e0,e1]
theorem aqY:kt HK [.i .i64,.i .i64,.i .i64,.i .i64]:=by
 intro ts ht hb
 obtain⟨_,_,rfl,⟨x0,rfl,w0⟩,_,_,rfl,⟨x1,rfl,w1⟩,_,_,rfl,⟨x2,rfl,w2⟩,_,_,rfl,⟨x3,rfl,w3⟩,rfl⟩:=mJ ht
 simp(implicitDefEqProofs:=false) only[fa,fy,fv,gf,gn,iy,Nat.add_zero,Nat.zero_add]at hb
 simp(implicitDefEqProofs:=false) only[HK,qU,pb,fS]
theorem aqZ:kt HL [.sl [.i .i64,.i .i64,.i .i64,.i .i64]]:=zD (S:=abN) (w:=4) (g:=208) rfl aqY
theorem aq0:kt HM [.i .i64,.i .i64,.i .i64,.b]:=by
 intro ts ht hb
 obtain⟨_,_,rfl,⟨x0,rfl,w0⟩,_,_,rfl,⟨x1,rfl,w1⟩,_,_,rfl,⟨x2,rfl,w2⟩,_,_,rfl,⟨x3,rfl⟩,rfl⟩:=mJ ht
 simp(implicitDefEqProofs:=false) only[fa,fy,fv,gf,gn,iy,Nat.add_zero,Nat.zero_add]at hb
 simp(implicitDefEqProofs:=false) only[HM,oJ,pb,fS]
theorem aq1:kt HN [.sl [.i .i64,.i .i64,.i .i64,.b]]:=zD (S:=abO) (w:=4) (g:=209) rfl aq0
theorem aq2:kt Dq [.i .i64,.sl [.i .i64,.i .i64,.i .i64,.i .i64],.sl [.i .i64,.i .i64,.i .i64,.b]]:=by
 intro ts ht hb
 obtain⟨_,_,rfl,⟨x0,rfl,w0⟩,t1,_,rfl,h1,t2,_,rfl,h2,rfl⟩:=mJ ht
 simp(implicitDefEqProofs:=false) only[fa,fy,fv,gf,gn,iy,Nat.add_zero,Nat.zero_add]at hb
 have aq3:NA 139=HL:=rfl
 have aq4:NA 140=HN:=rfl
 have e0:=aqZ [t1] (kq (show fY [.sl [.i .i64,.i .i64,.i .i64,.i .i64]] _ from⟨_,_,rfl,h1,rfl⟩)) (by simp(implicitDefEqProofs:=false) only[fa,fy,fv,gf,gn,iy,Nat.add_zero,Nat.zero_add];omega)
 simp only[List.cons_append,List.nil_append]at e0
 have e1:=aq1 [t2] (kq (show fY [.sl [.i .i64,.i .i64,.i .i64,.b]] _ from⟨_,_,rfl,h2,rfl⟩)) (by simp(implicitDefEqProofs:=false) only[fa,fy,fv,gf,gn,iy,Nat.add_zero,Nat.zero_add];omega)
 simp only[List.cons_append,List.nil_append]at e1
 simp(implicitDefEqProofs:=false) only[Dq,tC,pb,fS,aq3,aq4,e0,e1]
theorem acY:kt zY [.sl [.i .i64]]:=ajV (S:=abP) (op:=.bin .neq) ajW
theorem aq5:kt HO [.i .i64,.i .i64]:=by
 intro ts ht hb
 obtain⟨_,_,rfl,⟨x0,rfl,w0⟩,_,_,rfl,⟨x1,rfl,w1⟩,rfl⟩:=mJ ht
 simp(implicitDefEqProofs:=false) only[fa,fy,fv,gf,gn,iy,Nat.add_zero,Nat.zero_add]at hb
 simp(implicitDefEqProofs:=false) only[HO,qW,pb,fS]
theorem aq6:kt HP [.sl [.i .i64,.i .i64]]:=zD (S:=abR) (w:=2) (g:=241) rfl aq5
theorem aq7:kt HQ [.i .i64,.i .i64,.i .i64,.i .i64,.i .i64,.sl [.i .i64,.i .i64],.i .i64,.b]:=by
 intro ts ht hb
 obtain⟨_,_,rfl,⟨x0,rfl,w0⟩,_,_,rfl,⟨x1,rfl,w1⟩,_,_,rfl,⟨x2,rfl,w2⟩,_,_,rfl,⟨x3,rfl,w3⟩,_,_,rfl,⟨x4,rfl,w4⟩,t5,_,rfl,h5,_,_,rfl,⟨x6,rfl,w6⟩,_,_,rfl,⟨x7,rfl⟩,rfl⟩:=mJ ht
 simp(implicitDefEqProofs:=false) only[fa,fy,fv,gf,gn,iy,Nat.add_zero,Nat.zero_add]at hb
 have aq8:abS 232=HP:=rfl
 have e0:=aq6 [t5] (kq (show fY [.sl [.i .i64,.i .i64]] _ from⟨_,_,rfl,h5,rfl⟩)) (by simp(implicitDefEqProofs:=false) only[fa,fy,fv,gf,gn,iy,Nat.add_zero,Nat.zero_add];omega)
 simp only[List.cons_append,List.nil_append]at e0
 simp(implicitDefEqProofs:=false) only[HQ,mU,pb,fS,aq8,e0]
theorem acZ:kt RY [.sl [.i .i64,.i .i64,.i .i64,.i .i64,.i .i64,.sl [.i .i64,.i .i64],.i .i64,.b]]:=zD (S:=abT) (w:=8) (g:=202) rfl aq7
theorem aq9:kt Dr [.i .i64,.i .i64,.i .i64,.sl [.i .i64,.i .i64,.i .i64,.i .i64],.sl [.i .i64,.i .i64,.i .i64,.b],.sl [.i .i64],.sl [.i .i64,.i .i64,.i .i64,.i .i64,.i .i64,.sl [.i .i64,.i .i64],.i .i64,.b]]:=by
 intro ts ht hb
 obtain⟨_,_,rfl,⟨x0,rfl,w0⟩,_,_,rfl,⟨x1,rfl,w1⟩,_,_,rfl,⟨x2,rfl,w2⟩,t3,_,rfl,h3,t4,_,rfl,h4,t5,_,rfl,h5,t6,_,rfl,h6,rfl⟩:=mJ ht
 simp(implicitDefEqProofs:=false) only[fa,fy,fv,gf,gn,iy,Nat.add_zero,Nat.zero_add]at hb
 have s48:HR 48=Dq:=rfl
 have NP:HR 128=zY:=rfl
 have NQ:HR 129=RY:=rfl
 have e0:=aq2 [.c (.int .i64 x2),t3,t4] (kq (show fY [.i .i64,.sl [.i .i64,.i .i64,.i .i64,.i .i64],.sl [.i .i64,.i .i64,.i .i64,.b]] _ from⟨_,_,rfl,⟨_,rfl,w2⟩,_,_,rfl,h3,_,_,rfl,h4,rfl⟩)) (by simp(implicitDefEqProofs:=false) only[fa,fy,fv,gf,gn,iy,Nat.add_zero,Nat.zero_add];omega)
 simp only[List.cons_append,List.nil_append]at e0
 have e1:=acY [t5] (kq (show fY [.sl [.i .i64]] _ from⟨_,_,rfl,h5,rfl⟩)) (by simp(implicitDefEqProofs:=false) only[fa,fy,fv,gf,gn,iy,Nat.add_zero,Nat.zero_add];omega)
 simp only[List.cons_append,List.nil_append]at e1
 have e2:=acZ [t6] (kq (show fY [.sl [.i .i64,.i .i64,.i .i64,.i .i64,.i .i64,.sl [.i .i64,.i .i64],.i .i64,.b]] _ from⟨_,_,rfl,h6,rfl⟩)) (by simp(implicitDefEqProofs:=false) only[fa,fy,fv,gf,gn,iy,Nat.add_zero,Nat.zero_add];omega)
 simp only[List.cons_append,List.nil_append]at e2
 simp(implicitDefEqProofs:=false) only[Dr,qX,pb,fS,s48,NP,NQ,e0,e1,e2]
theorem aq_:kt HS [.i .i64,.i .i64,.i .i64,.b]:=by
 intro ts ht hb
 obtain⟨_,_,rfl,⟨x0,rfl,w0⟩,_,_,rfl,⟨x1,rfl,w1⟩,_,_,rfl,⟨x2,rfl,w2⟩,_,_,rfl,⟨x3,rfl⟩,rfl⟩:=mJ ht
 simp(implicitDefEqProofs:=false) only[fa,fy,fv,gf,gn,iy,Nat.add_zero,Nat.zero_add]at hb
 simp(implicitDefEqProofs:=false) only[HS,tD,pb,fS]
theorem aq':kt HT [.sl [.i .i64,.i .i64,.i .i64,.b]]:=zD (S:=abV) (w:=4) (g:=197) rfl aq_
theorem ac0:kt Ds [.i .i64,.i .i64,.i .i64,.sl [.i .i64,.i .i64,.i .i64,.i .i64],.sl [.i .i64,.i .i64,.i .i64,.b],.sl [.i .i64],.sl [.i .i64,.i .i64,.i .i64,.i .i64,.i .i64,.sl [.i .i64,.i .i64],.i .i64,.b],.sl [.i .i64,.i .i64,.i .i64,.b]]:=by
 intro ts ht hb
 obtain⟨_,_,rfl,⟨x0,rfl,w0⟩,_,_,rfl,⟨x1,rfl,w1⟩,_,_,rfl,⟨x2,rfl,w2⟩,t3,_,rfl,h3,t4,_,rfl,h4,t5,_,rfl,h5,t6,_,rfl,h6,t7,_,rfl,h7,rfl⟩:=mJ ht
 simp(implicitDefEqProofs:=false) only[fa,fy,fv,gf,gn,iy,Nat.add_zero,Nat.zero_add]at hb
 have ara:NB 114=Dr:=rfl
 have arb:NB 115=HT:=rfl
 have e0:=aq9 [.c (.int .i64 x0),.c (.int .i64 x1),.c (.int .i64 x2),t3,t4,t5,t6] (kq (show fY [.i .i64,.i .i64,.i .i64,.sl [.i .i64,.i .i64,.i .i64,.i .i64],.sl [.i .i64,.i .i64,.i .i64,.b],.sl [.i .i64],.sl [.i .i64,.i .i64,.i .i64,.i .i64,.i .i64,.sl [.i .i64,.i .i64],.i .i64,.b]] _ from⟨_,_,rfl,⟨_,rfl,w0⟩,_,_,rfl,⟨_,rfl,w1⟩,_,_,rfl,⟨_,rfl,w2⟩,_,_,rfl,h3,_,_,rfl,h4,_,_,rfl,h5,_,_,rfl,h6,rfl⟩)) (by simp(implicitDefEqProofs:=false) only[fa,fy,fv,gf,gn,iy,Nat.add_zero,Nat.zero_add];omega)
 simp only[List.cons_append,List.nil_append]at e0
 have e1:=aq' [t7] (kq (show fY [.sl [.i .i64,.i .i64,.i .i64,.b]] _ from⟨_,_,rfl,h7,rfl⟩)) (by simp(implicitDefEqProofs:=false) only[fa,fy,fv,gf,gn,iy,Nat.add_zero,Nat.zero_add];omega)
 simp only[List.cons_append,List.nil_append]at e1
 simp(implicitDefEqProofs:=false) only[Ds,qY,pb,fS,ara,arb,e0,e1]
theorem ac1:kt RZ [.i .i64,.i .i64,.i .i64,.i .i64,.sl [.i .i64],.sl [.i .i64,.i .i64,.i .i64,.i .i64,.i .i64,.sl [.i .i64,.i .i64],.i .i64,.b]]:=by
 intro ts ht hb
 obtain⟨_,_,rfl,⟨x0,rfl,w0⟩,_,_,rfl,⟨x1,rfl,w1⟩,_,_,rfl,⟨x2,rfl,w2⟩,_,_,rfl,⟨x3,rfl,w3⟩,t4,_,rfl,h4,t5,_,rfl,h5,rfl⟩:=mJ ht
 simp(implicitDefEqProofs:=false) only[fa,fy,fv,gf,gn,iy,Nat.add_zero,Nat.zero_add]at hb
 have NP:NC 128=zY:=rfl
 have NQ:NC 129=RY:=rfl
 have e0:=acY [t4] (kq (show fY [.sl [.i .i64]] _ from⟨_,_,rfl,h4,rfl⟩)) (by simp(implicitDefEqProofs:=false) only[fa,fy,fv,gf,gn,iy,Nat.add_zero,Nat.zero_add];omega)
 simp only[List.cons_append,List.nil_append]at e0
 have e1:=acZ [t5] (kq (show fY [.sl [.i .i64,.i .i64,.i .i64,.i .i64,.i .i64,.sl [.i .i64,.i .i64],.i .i64,.b]] _ from⟨_,_,rfl,h5,rfl⟩)) (by simp(implicitDefEqProofs:=false) only[fa,fy,fv,gf,gn,iy,Nat.add_zero,Nat.zero_add];omega)
 simp only[List.cons_append,List.nil_append]at e1
 simp(implicitDefEqProofs:=false) only[RZ,mV,pb,fS,NP,NQ,e0,e1]
theorem arc:kt HU [.sl [.i .i64,.i .i64,.i .i64,.i .i64,.sl [.i .i64],.sl [.i .i64,.i .i64,.i .i64,.i .i64,.i .i64,.sl [.i .i64,.i .i64],.i .i64,.b]]]:=zD (S:=abX) (w:=6) (g:=41) rfl ac1
theorem ard:EM HV [.sl [.i .i64,.i .i64,.i .i64,.i .i64]]:=xd (S:=abY) (fs:=[.i .i64,.i .i64,.i .i64,.i .i64]) (gs:=[]) (trivial) rfl
theorem arf:EM HW [.sl [.i .i64,.i .i64,.i .i64,.b]]:=xd (S:=abZ) (fs:=[.i .i64,.i .i64,.i .i64,.b]) (gs:=[]) (trivial) rfl
theorem ac2:EM Du [.sl [.i .i64]]:=xd (S:=ab0) (fs:=[.i .i64]) (gs:=[]) (trivial) rfl
theorem arh:EM NE [.sl [.i .i64,.i .i64]]:=xd (S:=ab2) (fs:=[.i .i64,.i .i64]) (gs:=[]) (trivial) rfl
theorem ac3:EM qH_ [.sl [.i .i64,.i .i64,.i .i64,.i .i64,.i .i64,.sl [.i .i64,.i .i64],.i .i64,.b]]:=xd (S:=ab3) (fs:=[.i .i64,.i .i64,.i .i64,.i .i64,.i .i64,.sl [.i .i64,.i .i64],.i .i64,.b]) (gs:=[199]) (aA arh (trivial)) rfl
theorem ari:EM HY [.sl [.i .i64,.i .i64,.i .i64,.b]]:=xd (S:=ab6) (fs:=[.i .i64,.i .i64,.i .i64,.b]) (gs:=[]) (trivial) rfl
theorem arj:EM kC_ [.sl [.i .i64,.i .i64,.i .i64,.i .i64,.sl [.i .i64],.sl [.i .i64,.i .i64,.i .i64,.i .i64,.i .i64,.sl [.i .i64,.i .i64],.i .i64,.b]]]:=xd (S:=ab7) (fs:=[.i .i64,.i .i64,.i .i64,.i .i64,.sl [.i .i64],.sl [.i .i64,.i .i64,.i .i64,.i .i64,.i .i64,.sl [.i .i64,.i .i64],.i .i64,.b]]) (gs:=[122,123]) (aA ac2 (aA ac3 (trivial))) rfl
theorem ark:nP NH [.i .i64,.i .i64,.i .i64,.i .i64,.sl [.i .i64],.sl [.i .i64,.i .i64,.i .i64,.i .i64,.i .i64,.sl [.i .i64,.i .i64],.i .i64,.b]]:=by
 intro ts l ht h_0 h_1
 obtain⟨_,_,rfl,⟨x0,rfl,w0⟩,_,_,rfl,⟨x1,rfl,w1⟩,_,_,rfl,⟨x2,rfl,w2⟩,_,_,rfl,⟨x3,rfl,w3⟩,t4,_,rfl,h4,t5,_,rfl,h5,rfl⟩:=mJ ht
 have vu:NG 124=zS:=rfl
 have vw:NG 125=RU:=rfl
 obtain⟨n0,e0,b0,c0⟩:=acT [t4] l (kq (show fY [.sl [.i .i64]] _ from⟨_,_,rfl,h4,rfl⟩)) (by omega) (by omega)
 simp only[List.cons_append,List.nil_append,fa,fy,fv,gf,gn,iy,Nat.add_zero,Nat.zero_add]at e0 c0
 by_cases g0:n0<0
 ·exact⟨-1,by simp(implicitDefEqProofs:=false) only[NH,jl,pb,fS,vu,vw,e0,g0],by omega,by omega⟩
 obtain⟨n1,e1,b1,c1⟩:=acV [t5] n0 (kq (show fY [.sl [.i .i64,.i .i64,.i .i64,.i .i64,.i .i64,.sl [.i .i64,.i .i64],.i .i64,.b]] _ from⟨_,_,rfl,h5,rfl⟩)) (by omega) (by omega)
 simp only[List.cons_append,List.nil_append,fa,fy,fv,gf,gn,iy,Nat.add_zero,Nat.zero_add]at e1 c1
 by_cases g1:n1<0
 ·exact⟨-1,by simp(implicitDefEqProofs:=false) only[NH,jl,pb,fS,vu,vw,e0,e1,g0,g1],by omega,by omega⟩
 refine⟨n1,by simp(implicitDefEqProofs:=false) only[NH,jl,pb,fS,vu,vw,e0,e1,g0,g1],by omega,λ_=>?_⟩
 simp(implicitDefEqProofs:=false) only[fa,fy,fv,gf,gn,iy,Nat.add_zero,Nat.zero_add]
 have:=c0 (by omega)
 have:=c1 (by omega)
 omega
theorem arl:lu Dw [.i .i64,.i .i64,.i .i64,.i .i64,.sl [.i .i64],.sl [.i .i64,.i .i64,.i .i64,.i .i64,.i .i64,.sl [.i .i64,.i .i64],.i .i64,.b]]:=by
 intro ts ht hb
 obtain⟨_,_,rfl,⟨x0,rfl,w0⟩,_,_,rfl,⟨x1,rfl,w1⟩,_,_,rfl,⟨x2,rfl,w2⟩,_,_,rfl,⟨x3,rfl,w3⟩,t4,_,rfl,h4,t5,_,rfl,h5,rfl⟩:=mJ ht
 simp(implicitDefEqProofs:=false) only[fa,fy,fv,gf,gn,iy,Nat.add_zero,Nat.zero_add]at hb
 have NN:NI 126=zU:=rfl
 have NO:NI 127=RV:=rfl
 have e0:=acW [t4] (kq (show fY [.sl [.i .i64]] _ from⟨_,_,rfl,h4,rfl⟩)) (by simp(implicitDefEqProofs:=false) only[fa,fy,fv,gf,gn,iy,Nat.add_zero,Nat.zero_add];omega)
 have e1:=acX [t5] (kq (show fY [.sl [.i .i64,.i .i64,.i .i64,.i .i64,.i .i64,.sl [.i .i64,.i .i64],.i .i64,.b]] _ from⟨_,_,rfl,h5,rfl⟩)) (by simp(implicitDefEqProofs:=false) only[fa,fy,fv,gf,gn,iy,Nat.add_zero,Nat.zero_add];omega)
 simp(implicitDefEqProofs:=false) only[Dw,mY,pb,fS,NN,NO,e0,e1]
end Go.Proofs.YtjimmglpkndemaaGreatC

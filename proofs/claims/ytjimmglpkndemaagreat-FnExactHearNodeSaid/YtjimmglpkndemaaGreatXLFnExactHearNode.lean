/- FnExactHearNode: what the plain programs say. Conditions: none. -/
import Derived.Test.YtjimmglpkndemaaGreatXSZd
namespace Go.Proofs.YtjimmglpkndemaaGreatC
attribute [local irreducible] jp
set_option linter.unusedVariables false
set_option linter.unusedSimpArgs false
def afz:List Ty:=G8++G9
set_option maxRecDepth 100000 in
set_option maxHeartbeats 4000000 in
theorem ayX(ts:List T)(h0:cW afz ts):R1 ts=some [.c (.bool true)]:=by
 obtain⟨ws,us,rfl,h,h'⟩:=Wq (fs:=G8) h0
 obtain⟨p,rfl,hp⟩:=anw us h'
 obtain⟨x,rfl,hx⟩:=am8 ws h
 have s26:AG 26=jf_:=rfl
 have s27:AG 27=q5_:=rfl
 have s30:AG 30=M4:=rfl
 have s32:AG 32=CO:=rfl
 have s33:AG 33=Ds:=rfl
 have s34:AG 34=HU:=rfl
 have s37:AG 37=R0:=rfl
 have s38:AG 38=kC_:=rfl
 have s39:AG 39=NH:=rfl
 have s40:AG 40=Dw:=rfl
 have s41:AG 41=RZ:=rfl
 obtain⟨n,e1,b1,c1⟩:=aqG _ 1048576 h (by omega) (by omega)
 rw[yd]at c1
 simp only[jk,eD,List.cons_append,List.nil_append]at e1⊢
 by_cases q:n<0
 ·simp(implicitDefEqProofs:=false) only[R1,eA,Q,Qa,Qb,Qe,Qi,Ql,Qn,Qt,Qu,Qz,I,pb,fS,s30,e1,q]
 have c2:=c1 (by omega)
 have hb:AD x<=1048576:=by omega
 obtain⟨n',e1',b1',c1'⟩:=ark _ n h' (by omega) (by omega)
 rw[G_]at c1'
 simp only[eD,List.cons_append,List.nil_append]at e1'
 by_cases q':n'<0
 ·simp(implicitDefEqProofs:=false) only[R1,eA,Q,Qa,Qb,Qe,Qi,Ql,Qn,Qt,Qu,Qz,I,pb,fS,s30,s39,e1,q,e1',q']
 have c2':=c1' (by omega)
 have hbp:CH p<=1048576:=by omega
 have Ua:=arl _ h' (by rw[G_];exact hbp)
 have e3':=ac1 _ h' (by rw[G_];exact hbp)
 simp only[eD,List.cons_append,List.nil_append]at Ua e3'
 have e2:=aqV _ h (by rw[yd];exact hb)
 have e3:=ac0 _ h (by rw[yd];exact hb)
 simp only[jk,List.cons_append,List.nil_append]at e2 e3
 obtain⟨oN,bN,oP,bP,lP⟩:=ayT p hx hb
 have JM:=hb
 unfold AD at hb
 have h1:=J3 (f:=zM) x.self.net.aE
 have h2:=J3 (f:=zN) x.self.net.aM
 have h3:=J3 (f:=tg) x.self.heard
 have h4:=J3 (f:=zP) x.self.store
 have h5:=J3 (f:=zQ) x.cU
 unfold CH at hbp
 have h6:=J3 (f:=tg) p.heard
 have h7:=J3 (f:=zP) p.list
 have a1:=ayW x p (by omega) (by omega) (by omega) (by omega) (Iw (by omega)) (by omega) (by omega) (by omega) (Iw (by omega))
 have a2:=ayr x p (by omega) (by omega) (by omega) (by omega) (Iw (by omega)) (by omega) (by omega) (by omega) (Iw (by omega))
 generalize(vJ x p).1=y at a1 a2 oN bN
 generalize(vJ x p).2=l at a1 a2 oP bP lP
 have e4:=ac0 _ (am9 y oN) (by rw[Go.Proofs.YtjimmglpkndemaaGreatC.yd];exact bN)
 simp only[jk,eD,List.cons_append,List.nil_append]at a1 a2 e4
 have vP:=rR anx oP
 have tP:=rS G_ l
 have hwP:cW [.sl G9] [.l (l.map eD)]:=V0 (by rw[List.length_map];unfold maxLen;omega) vP
 have hbP:lN [T.l (l.map eD)]<=1048576:=by rw[fa,fy,fv,tP];omega
 have e5:=arc _ hwP hbP
 simp only[List.cons_append,List.nil_append]at e5
 obtain⟨_,_,_,⟨_,o1⟩,⟨_,o2⟩,⟨_,o3⟩,⟨_,o4⟩,⟨_,o5⟩⟩:=hx
 obtain⟨_,_,_,⟨j1,p1⟩,⟨j2,p2⟩,⟨j3,p3⟩,⟨j4,p4⟩,⟨j5,p5⟩⟩:=oN
 have w1:=rR MN o1
 have v1:=rR MN p1
 have k1:=rS MO x.self.net.aE
 have t1:=rS MO y.self.net.aE
 have w2:=rR MP o2
 have v2:=rR MP p2
 have k2:=rS MQ x.self.net.aM
 have t2:=rS MQ y.self.net.aM
 have w3:=rR CB o3
 have v3:=rR CB p3
 have k3:=rS CC x.self.heard
 have t3:=rS CC y.self.heard
 have w4:=rR CE o4
 have v4:=rR CE p4
 have k4:=rS CF x.self.store
 have t4:=rS CF y.self.store
 have w5:=rR MT o5
 have v5:=rR MT p5
 have k5:=rS MU x.cU
 have t5:=rS MU y.cU
 obtain⟨_,_,_,_,⟨_,o6⟩,⟨_,o7⟩⟩:=hp
 have w6:=rR CB o6
 have k6:=rS CC p.heard
 have w7:=rR CE o7
 have k7:=rS CF p.list
 unfold AD at bN
 obtain⟨n1,qn1⟩:∃zz,zz=(dg (de rz) 1 (x.self.net.aE.map dB)).1:=⟨_,rfl⟩
 have mn1:=rG rz rfl (by decide) w1 1
 rw[<-qn1,k1]at mn1
 obtain⟨n2,qn2⟩:∃zz,zz=(dg (de rA) n1 (x.self.net.aM.map ed)).1:=⟨_,rfl⟩
 have mn2:=rG rA rfl (by decide) w2 n1
 rw[<-qn2,k2]at mn2
 obtain⟨n3,qn3⟩:∃zz,zz=(dg (de iz) n2 (x.self.heard.map aB)).1:=⟨_,rfl⟩
 have mn3:=rG iz rfl (by decide) w3 n2
 rw[<-qn3,k3]at mn3
 obtain⟨n4,qn4⟩:∃zz,zz=(dg (de iA) n3 (x.self.store.map ai)).1:=⟨_,rfl⟩
 have mn4:=rG iA rfl (by decide) w4 n3
 rw[<-qn4,k4]at mn4
 obtain⟨n5,qn5⟩:∃zz,zz=(dg (de lQ) n4 (x.cU.map b8)).1:=⟨_,rfl⟩
 have mn5:=rG lQ rfl (by decide) w5 n4
 rw[<-qn5,k5]at mn5
 obtain⟨n6,qn6⟩:∃zz,zz=(dg (de iz) n5 (p.heard.map aB)).1:=⟨_,rfl⟩
 have mn6:=rG iz rfl (by decide) w6 n5
 rw[<-qn6,k6]at mn6
 obtain⟨n7,qn7⟩:∃zz,zz=(dg (de iA) n6 (p.list.map ai)).1:=⟨_,rfl⟩
 have mn7:=rG iA rfl (by decide) w7 n6
 rw[<-qn7,k7]at mn7
 obtain⟨r1,qr1⟩:∃zz,zz=(dg (de rz) 1 (y.self.net.aE.map dB)).1:=⟨_,rfl⟩
 have mr1:=rG rz rfl (by decide) v1 1
 rw[<-qr1,t1]at mr1
 obtain⟨r2,qr2⟩:∃zz,zz=(dg (de rA) r1 (y.self.net.aM.map ed)).1:=⟨_,rfl⟩
 have mr2:=rG rA rfl (by decide) v2 r1
 rw[<-qr2,t2]at mr2
 obtain⟨r3,qr3⟩:∃zz,zz=(dg (de iz) r2 (y.self.heard.map aB)).1:=⟨_,rfl⟩
 have mr3:=rG iz rfl (by decide) v3 r2
 rw[<-qr3,t3]at mr3
 obtain⟨r4,qr4⟩:∃zz,zz=(dg (de iA) r3 (y.self.store.map ai)).1:=⟨_,rfl⟩
 have mr4:=rG iA rfl (by decide) v4 r3
 rw[<-qr4,t4]at mr4
 obtain⟨r5,qr5⟩:∃zz,zz=(dg (de lQ) r4 (y.cU.map b8)).1:=⟨_,rfl⟩
 have mr5:=rG lQ rfl (by decide) v5 r4
 rw[<-qr5,t5]at mr5
 obtain⟨r6,qr6⟩:∃zz,zz=(dg (de G9) r5 (l.map eD)).1:=⟨_,rfl⟩
 have mr6:=rG G9 rfl (by decide) vP r5
 rw[<-qr6,tP]at mr6
 have e6:=ayO y.self.id y.self.bh y.self.net.n 1 (by omega) (by rw[List.length_map];exact j1) v1 (by rw[List.length_map];exact j2) v2 (by rw[List.length_map];exact j3) v3 (by rw[List.length_map];exact j4) v4 (by rw[List.length_map];exact j5) v5 (by rw[t1,t2,t3,t4];omega) (by rw[t5];omega) qr1 qr2 qr3 qr4 qr5
 have e6:R0 [ii y.self.id,ii y.self.bh,ii y.self.net.n,.l (dg (de rz) 1 (y.self.net.aE.map dB)).2,.l (dg (de rA) r1 (y.self.net.aM.map ed)).2,.l (dg (de iz) r2 (y.self.heard.map aB)).2,.l (dg (de iA) r3 (y.self.store.map ai)).2,.l (dg (de lQ) r4 (y.cU.map b8)).2,.c (.int .i64 1)]=some [.c (.int .i64 (r5:Int))]:=e6
 have e7:=SE (es:=G9) arj r5 (by rw[List.length_map];unfold maxLen;omega) vP (by rw[tP];omega) (by omega)
 rw[<-qr6]at e7
 have z1:¬((n7:Int)<0):=by omega
 have z2:¬((r5:Int)<0):=by omega
 have z3:¬((r6:Int)<0):=by omega
 simp(implicitDefEqProofs:=false) only[R1,eA,Q,Qa,Qb,Qe,Qi,Ql,Qn,Qt,Qu,Qz,I,pb,fS,Rn,s26,s27,s30,s32,s33,s34,s37,s38,s39,s40,s41,e1,e2,e3,a1,a2,e4,e5,q,e1',Ua,e3',q']
 refine pg rz 4 86 44 87 1 (xf rz 0 rfl 4) (by decide) rfl rfl (by omega) rfl rfl w1 (by omega) (by omega) λf=>?_
 rw[<-qn1]
 refine pg rA 4 87 45 92 n1 (xf rA 0 rfl 4) (by decide) rfl rfl (by omega) rfl rfl w2 (by omega) (by omega) λf=>?_
 rw[<-qn2]
 refine pg iz 1 92 46 97 n2 (xf iz 0 rfl 1) (by decide) rfl rfl (by omega) rfl rfl w3 (by omega) (by omega) λf=>?_
 rw[<-qn3]
 refine pg iA 8 97 47 102 n3 (xf iA 0 rfl 8) (by decide) rfl rfl (by omega) rfl rfl w4 (by omega) (by omega) λf=>?_
 rw[<-qn4]
 refine pg lQ 4 102 48 107 n4 (xf lQ 0 rfl 4) (by decide) rfl rfl (by omega) rfl rfl w5 (by omega) (by omega) λf=>?_
 rw[<-qn5]
 refine pg iz 1 107 53 112 n5 (xf iz 0 rfl 1) (by decide) rfl rfl (by omega) rfl rfl w6 (by omega) (by omega) λf=>?_
 rw[<-qn6]
 refine pg iA 8 112 54 117 n6 (xf iA 0 rfl 8) (by decide) rfl rfl (by omega) rfl rfl w7 (by omega) (by omega) λf=>?_
 rw[<-qn7]
 simp(implicitDefEqProofs:=false) only[pb,fS,Rn,s26,s27,s30,s32,s33,s34,s37,s38,s39,s40,s41,e4,e5,z1]
 refine pg rz 4 127 58 128 1 (xf rz 0 rfl 4) (by decide) rfl rfl (by omega) rfl rfl v1 (by omega) (by omega) λf=>?_
 rw[<-qr1]
 refine pg rA 4 128 59 133 r1 (xf rA 0 rfl 4) (by decide) rfl rfl (by omega) rfl rfl v2 (by omega) (by omega) λf=>?_
 rw[<-qr2]
 refine pg iz 1 133 60 138 r2 (xf iz 0 rfl 1) (by decide) rfl rfl (by omega) rfl rfl v3 (by omega) (by omega) λf=>?_
 rw[<-qr3]
 refine pg iA 8 138 61 143 r3 (xf iA 0 rfl 8) (by decide) rfl rfl (by omega) rfl rfl v4 (by omega) (by omega) λf=>?_
 rw[<-qr4]
 refine pg lQ 4 143 62 148 r4 (xf lQ 0 rfl 4) (by decide) rfl rfl (by omega) rfl rfl v5 (by omega) (by omega) λf=>?_
 rw[<-qr5]
 refine pg G9 6 148 63 153 r5 (xf G9 0 rfl 6) (by decide) rfl rfl (by omega) rfl rfl vP (by omega) (by omega) λf=>?_
 rw[<-qr6]
 simp(implicitDefEqProofs:=false) only[pb,fS,Rn,s26,s27,s30,s32,s33,s34,s37,s38,s39,s40,s41,e2,Ua,a1,e4,e5,e6,e7,z2,z3]
end Go.Proofs.YtjimmglpkndemaaGreatC

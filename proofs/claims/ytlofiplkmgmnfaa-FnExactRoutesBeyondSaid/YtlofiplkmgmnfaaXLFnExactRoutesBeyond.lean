/- FnExactRoutesBeyond: what the plain programs say. Conditions: none. -/
import Derived.Test.YtlofiplkmgmnfaaXMA
import Derived.Test.YtlofiplkmgmnfaaKe
import Derived.Test.YtlofiplkmgmnfaaXSM
namespace Go.Proofs.YtlofiplkmgmnfaaC
set_option linter.unusedVariables false
set_option linter.unusedSimpArgs false
def ys_FnExactRoutesBeyond:List Ty:=[.sl yRcd,.sl yInt,.b,.i .i64]
theorem mk_bnd (es:List Ty) (hm:mkOk es=true) (hl:es.length≤63) {xs:List (List T)} (hw:∀ r∈xs,WTs es r) (n:Nat):n≤(mkRows (mkR es) n xs).1∧(mkRows (mkR es) n xs).1≤n+64 * bulkRs xs :=
 mkRows_le (g:=mkR es) (xs:=xs) (fun m r hr=>by
  have:=mkR_le es m r hm (hw r hr)
  omega) n
theorem ways_fit {B:List Way} (h1:B.length≤7) (h2:∀ w∈B,(1≤w.to∧w.to≤6)∧HopsOk w.hops∧0≤w.cost∧w.cost≤100000):(∀ w∈B,OkWay w)∧blks blkWay B≤49:=by
 have lenI:∀ m:List Int,blks blkInt m=m.length:=by
  intro m;induction m with
  | nil=>rfl
  | cons a m ih=>simp only [blks,ih,blkInt,List.length_cons];omega
 refine ⟨fun w hw=>?_,?_⟩
 ·obtain ⟨g1,g2,g3⟩:=h2 w hw
  have:=hops_len g2
  exact ⟨I64.mk (by omega) (by omega),I64.mk (by omega) (by omega),⟨by unfold maxLen;omega,fun n hn=>by have:=(g2.2 n hn);exact I64.mk (by omega) (by omega)⟩⟩
 ·have:∀ l:List Way,(∀ w∈l,HopsOk w.hops)→blks blkWay l≤7 * l.length:=by
   intro l
   induction l with
   | nil=>intro _;simp [blks]
   | cons r l ih =>
    intro h
    have h3:=ih fun y hy=>h y (.tail _ hy)
    have h4:blkWay r=r.hops.length:=by unfold blkWay;rw [lenI]
    have:=hops_len (h r (.head _))
    simp only [blks,h4,List.length_cons]
    omega
  have:=this B fun w hw=>(h2 w hw).2.1
  omega
theorem true_FnExactRoutesBeyond (ts:List T) (h0:WTs ys_FnExactRoutesBeyond ts):F_FnExactRoutesBeyond ts=some [.c (.bool true)]:=by
 obtain ⟨t1,_,rfl,q1,t2,_,rfl,q2,_,_,rfl,⟨z,rfl⟩,_,_,rfl,⟨fr,rfl,hfr⟩,rfl⟩:=WTsU_of h0
 unfold WT at q1 q2
 obtain ⟨z1,rfl,m1,g1⟩:=q1
 obtain ⟨s,rfl,hs⟩:=dec_list dRcd g1
 obtain ⟨z2,rfl,m2,g2⟩:=q2
 obtain ⟨A,rfl,hA⟩:=dec_list dInt g2
 rw [List.length_map] at m2
 rw [List.length_map] at m1
 have s15:S_FnExactRoutesBeyond 15=F_szRecordS:=rfl
 have s17:S_FnExactRoutesBeyond 17=F_toRecordS:=rfl
 have s19:S_FnExactRoutesBeyond 19=F_eqWayS:=rfl
 have s20:S_FnExactRoutesBeyond 20=F_eqRecordS:=rfl
 have s23:S_FnExactRoutesBeyond 23=F_heldWayS:=rfl
 have s25:S_FnExactRoutesBeyond 25=F_toIntS:=rfl
 have s27:S_FnExactRoutesBeyond 27=F_eqIntS:=rfl
 have s29:S_FnExactRoutesBeyond 29=F_s_RoutesBeyond:=rfl
 have s30:S_FnExactRoutesBeyond 30=F_i_RoutesBeyond:=rfl
 by_cases i1:((A.map eInt).length:Int) > 1048576
 ·simp (implicitDefEqProofs:=false) only [F_FnExactRoutesBeyond,p_FnExactRoutesBeyond,pb,pickN,i1]
 have j1:=i1
 rw [List.length_map] at j1
 have wA:WTs [.sl yInt] [.l (A.map eInt)]:=WTs_sl (by rw [List.length_map];exact m2) g2
 have wS:WTs [.sl yRcd] [.l (s.map eRcd)]:=WTs_sl (by rw [List.length_map];exact m1) g1
 obtain ⟨n,e1,b1,c1⟩:=so_szRecordS _ 1048576 wS (by omega) (by omega)
 simp only [List.cons_append,List.nil_append] at e1
 have kS:bulkR [T.l (s.map eRcd)]=blks blkRcd s:=by rw [bulkR_cons,bulkR_nil,bulk_l,blks_eq bRcd,Nat.add_zero]
 rw [kS] at c1
 by_cases q:n < 0
 ·simp (implicitDefEqProofs:=false) only [F_FnExactRoutesBeyond,p_FnExactRoutesBeyond,pb,pickN,s15,e1,i1,q]
 have c2:=c1 (by omega)
 have hb:blks blkRcd s≤1048576:=by omega
 have bS:bulkR [T.l (s.map eRcd)]≤1048576:=by rw [kS];exact hb
 have f1:=so_toRecordS _ wS bS
 have f3:=so_eqRecordS _ wS bS
 simp only [List.cons_append,List.nil_append] at f3
 have lenI:∀ m:List Int,blks blkInt m=m.length:=by
  intro m;induction m with
  | nil=>rfl
  | cons a m ih=>simp only [blks,ih,blkInt,List.length_cons];omega
 have bA:bulkR [T.l (A.map eInt)]≤1048576:=by rw [bulkR_cons,bulkR_nil,bulk_l,blks_eq bInt,lenI];omega
 have f2:=so_toIntS _ wA bA
 have f4:=so_eqIntS _ wA bA
 simp only [List.cons_append,List.nil_append] at f4
 have h1:=blks_len (f:=blkRcd) s
 have hn:=nearL_of hb
 have a1:=e_i_RoutesBeyond s A z fr (by omega) hn (by omega)
 have a2:=e_s_RoutesBeyond s A z fr (by omega) hn (by omega)
 obtain ⟨r0,r0'⟩:(beyond s A z fr).length≤7∧∀ w∈beyond s A z fr,(1≤w.to∧w.to≤6)∧HopsOk w.hops∧0≤w.cost∧w.cost≤100000:=⟨Nat.le_trans (wlst_len _) (by decide),fun w hw=>by obtain ⟨g1,y,g2,g3,g4⟩:=wlst_hops (fun x hx=>(beyondC_ok x hx).2.1) hw;obtain ⟨u1,u2,u3,u4⟩:=beyondC_ok y g2;exact ⟨by omega,g1,by omega⟩⟩
 obtain ⟨r1,r3⟩:=ways_fit r0 r0'
 generalize beyond s A z fr=B at a1 a2 r0 r1 r3
 have hR:=enc_list wWay r1
 have hwR:WTs [.sl yWay] [.l (B.map eWay)]:=WTs_sl (by rw [List.length_map];unfold maxLen;omega) hR
 have hbR:bulkRs (B.map eWay)≤49:=by rw [blks_eq bWay];exact r3
 have hbR':bulkR [T.l (B.map eWay)]≤1048576:=by rw [bulkR_cons,bulkR_nil,bulk_l];omega
 have e6:=so_eqWayS _ hwR hbR'
 simp only [List.cons_append,List.nil_append] at e6
 have e7:=so_heldWayS 1 _ hwR hbR' (by rw [bulkR_cons,bulkR_nil,bulk_l];omega)
 rw [mkR_cons,mkR_nil,mkT_sl] at e7
 have e7:F_heldWayS [.l (mkRows (mkR yWay) 1 (B.map eWay)).2,.c (.int .i64 1)]=some [.c (.int .i64 ((mkRows (mkR yWay) 1 (B.map eWay)).1:Int))]:=e7
 have k1:=blks_eq bRcd s
 obtain ⟨n1,q1⟩:∃ n1,n1=(mkRows (mkR yRcd) 1 (s.map eRcd)).1:=⟨_,rfl⟩
 have m1:=mk_bnd yRcd rfl (by decide) g1 1
 rw [← q1,k1] at m1
 have k2:=blks_eq bInt A
 rw [lenI] at k2
 obtain ⟨n2,q2⟩:∃ n2,n2=(mkRows (mkR yInt) n1 (A.map eInt)).1:=⟨_,rfl⟩
 have m2:=mk_bnd yInt rfl (by decide) g2 n1
 rw [← q2,k2] at m2
 have m6:=mk_bnd yWay rfl (by decide) hR 1
 have z1:¬ ((n2:Int) < 0):=by omega
 have z2:¬ (((mkRows (mkR yWay) 1 (B.map eWay)).1:Int) < 0):=by omega
 simp (implicitDefEqProofs:=false) only [F_FnExactRoutesBeyond,p_FnExactRoutesBeyond,pb,pickN,s15,s17,s19,s20,s25,s27,s29,s30,e1,f1,f3,a1,a2,e6,q,f2,f4,i1]
 refine lv_top (es:=yRcd) (flds:=mkFsP yRcd 8 0) (cl:=.k (.int .i64 1)) (s:=11) (p:=22) (n:=1) (mkFs_ok yRcd 0 rfl 8) (by decide) rfl rfl (by omega) rfl rfl g1 (by omega) (by omega) fun f=>?_
 rw [← q1]
 refine lv_top (es:=yInt) (flds:=mkFsP yInt 1 0) (cl:=.a 22) (s:=12) (p:=27) (n:=n1) (mkFs_ok yInt 0 rfl 1) (by decide) rfl rfl (by omega) rfl rfl g2 (by omega) (by omega) fun f=>?_
 rw [← q2]
 simp (implicitDefEqProofs:=false) only [pb,pickN,s19,e6,z1]
 refine lv_top (es:=yWay) (flds:=mkFsP yWay 3 0) (cl:=.k (.int .i64 1)) (s:=13) (p:=35) (n:=1) (mkFs_ok yWay 0 rfl 3) (by decide) rfl rfl (by omega) rfl rfl hR (by omega) (by omega) fun f=>?_
 simp (implicitDefEqProofs:=false) only [pb,pickN,s15,s17,s19,s20,s23,s25,s27,s29,s30,f1,f2,a1,e6,e7,z2]
end Go.Proofs.YtlofiplkmgmnfaaC

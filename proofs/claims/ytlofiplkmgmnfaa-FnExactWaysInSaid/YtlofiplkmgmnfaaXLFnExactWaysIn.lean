/- FnExactWaysIn: what the plain programs say. Conditions: none. -/
import Derived.Test.YtlofiplkmgmnfaaXMA
import Derived.Test.YtlofiplkmgmnfaaKe
import Derived.Test.YtlofiplkmgmnfaaXSL
namespace Go.Proofs.YtlofiplkmgmnfaaC
set_option linter.unusedVariables false
set_option linter.unusedSimpArgs false
def ys_FnExactWaysIn:List Ty:=[.sl yRcd,.i .i64,.i .i64]
theorem mk_bnd (es:List Ty) (hm:mkOk es=true) (hl:es.length≤63) {xs:List (List T)} (hw:∀ r∈xs,WTs es r) (n:Nat):n≤(mkRows (mkR es) n xs).1∧(mkRows (mkR es) n xs).1≤n+64 * bulkRs xs :=
 mkRows_le (g:=mkR es) (xs:=xs) (fun m r hr=>by
  have:=mkR_le es m r hm (hw r hr)
  omega) n
theorem ways_fit {B:List Way} (h1:B.length≤7) (h2:∀ w∈B,(1≤w.to∧w.to≤6)∧HopsOk w.hops∧0≤w.cost∧w.cost≤100000):(∀ w∈B,OkWay w)∧blks blkWay B≤49:=by
 have lenI:∀ m:List Int,blks blkInt m=m.length:=by
  intro m;induction m with
  | nil=>rfl
  | cons a m ih=>simp only [blks,ih,blkInt,List.length_cons];omega
 refine ⟨fun w hw=>?_,?_⟩
 ·obtain ⟨g1,g2,g3⟩:=h2 w hw
  have:=hops_len g2
  exact ⟨I64.mk (by omega) (by omega),I64.mk (by omega) (by omega),⟨by unfold maxLen;omega,fun n hn=>by have:=(g2.2 n hn);exact I64.mk (by omega) (by omega)⟩⟩
 ·have:∀ l:List Way,(∀ w∈l,HopsOk w.hops)→blks blkWay l≤7 * l.length:=by
   intro l
   induction l with
   | nil=>intro _;simp [blks]
   | cons r l ih =>
    intro h
    have h3:=ih fun y hy=>h y (.tail _ hy)
    have h4:blkWay r=r.hops.length:=by unfold blkWay;rw [lenI]
    have:=hops_len (h r (.head _))
    simp only [blks,h4,List.length_cons]
    omega
  have:=this B fun w hw=>(h2 w hw).2.1
  omega
theorem true_FnExactWaysIn (ts:List T) (h0:WTs ys_FnExactWaysIn ts):F_FnExactWaysIn ts=some [.c (.bool true)]:=by
 obtain ⟨t1,_,rfl,q1,_,_,rfl,⟨area,rfl,harea⟩,_,_,rfl,⟨fr,rfl,hfr⟩,rfl⟩:=WTsU_of h0
 unfold WT at q1
 obtain ⟨z1,rfl,m1,g1⟩:=q1
 obtain ⟨s,rfl,hs⟩:=dec_list dRcd g1
 rw [List.length_map] at m1
 have s15:S_FnExactWaysIn 15=F_szRecordS:=rfl
 have s16:S_FnExactWaysIn 16=F_s_WaysIn:=rfl
 have s17:S_FnExactWaysIn 17=F_toRecordS:=rfl
 have s18:S_FnExactWaysIn 18=F_i_WaysIn:=rfl
 have s19:S_FnExactWaysIn 19=F_eqWayS:=rfl
 have s20:S_FnExactWaysIn 20=F_eqRecordS:=rfl
 have s23:S_FnExactWaysIn 23=F_heldWayS:=rfl
 have wS:WTs [.sl yRcd] [.l (s.map eRcd)]:=WTs_sl (by rw [List.length_map];exact m1) g1
 obtain ⟨n,e1,b1,c1⟩:=so_szRecordS _ 1048576 wS (by omega) (by omega)
 simp only [List.cons_append,List.nil_append] at e1
 have kS:bulkR [T.l (s.map eRcd)]=blks blkRcd s:=by rw [bulkR_cons,bulkR_nil,bulk_l,blks_eq bRcd,Nat.add_zero]
 rw [kS] at c1
 by_cases q:n < 0
 ·simp (implicitDefEqProofs:=false) only [F_FnExactWaysIn,p_FnExactWaysIn,pb,pickN,s15,e1,q]
 have c2:=c1 (by omega)
 have hb:blks blkRcd s≤1048576:=by omega
 have bS:bulkR [T.l (s.map eRcd)]≤1048576:=by rw [kS];exact hb
 have f1:=so_toRecordS _ wS bS
 have f3:=so_eqRecordS _ wS bS
 simp only [List.cons_append,List.nil_append] at f3
 have h1:=blks_len (f:=blkRcd) s
 have hn:=nearL_of hb
 have a1:=e_i_WaysIn s area fr (by omega) hn
 have a2:=e_s_WaysIn s area fr (by omega) hn
 obtain ⟨r0,r0'⟩:(waysIn s area fr).length≤7∧∀ w∈waysIn s area fr,(1≤w.to∧w.to≤6)∧HopsOk w.hops∧0≤w.cost∧w.cost≤100000:=⟨waysIn_ok.2.1,fun w hw=>by obtain ⟨g1,g2,g3,g4⟩:=waysIn_ok.2.2 w hw;exact ⟨g1,g2,g3,by omega⟩⟩
 obtain ⟨r1,r3⟩:=ways_fit r0 r0'
 generalize waysIn s area fr=B at a1 a2 r0 r1 r3
 have hR:=enc_list wWay r1
 have hwR:WTs [.sl yWay] [.l (B.map eWay)]:=WTs_sl (by rw [List.length_map];unfold maxLen;omega) hR
 have hbR:bulkRs (B.map eWay)≤49:=by rw [blks_eq bWay];exact r3
 have hbR':bulkR [T.l (B.map eWay)]≤1048576:=by rw [bulkR_cons,bulkR_nil,bulk_l];omega
 have e6:=so_eqWayS _ hwR hbR'
 simp only [List.cons_append,List.nil_append] at e6
 have e7:=so_heldWayS 1 _ hwR hbR' (by rw [bulkR_cons,bulkR_nil,bulk_l];omega)
 rw [mkR_cons,mkR_nil,mkT_sl] at e7
 have e7:F_heldWayS [.l (mkRows (mkR yWay) 1 (B.map eWay)).2,.c (.int .i64 1)]=some [.c (.int .i64 ((mkRows (mkR yWay) 1 (B.map eWay)).1:Int))]:=e7
 have k1:=blks_eq bRcd s
 obtain ⟨n1,q1⟩:∃ n1,n1=(mkRows (mkR yRcd) 1 (s.map eRcd)).1:=⟨_,rfl⟩
 have m1:=mk_bnd yRcd rfl (by decide) g1 1
 rw [← q1,k1] at m1
 have m6:=mk_bnd yWay rfl (by decide) hR 1
 have z1:¬ ((n1:Int) < 0):=by omega
 have z2:¬ (((mkRows (mkR yWay) 1 (B.map eWay)).1:Int) < 0):=by omega
 simp (implicitDefEqProofs:=false) only [F_FnExactWaysIn,p_FnExactWaysIn,pb,pickN,s15,s16,s17,s18,s19,s20,e1,f1,f3,a1,a2,e6,q]
 refine lv_top (es:=yRcd) (flds:=mkFsP yRcd 8 0) (cl:=.k (.int .i64 1)) (s:=7) (p:=14) (n:=1) (mkFs_ok yRcd 0 rfl 8) (by decide) rfl rfl (by omega) rfl rfl g1 (by omega) (by omega) fun f=>?_
 rw [← q1]
 simp (implicitDefEqProofs:=false) only [pb,pickN,s19,e6,z1]
 refine lv_top (es:=yWay) (flds:=mkFsP yWay 3 0) (cl:=.k (.int .i64 1)) (s:=8) (p:=22) (n:=1) (mkFs_ok yWay 0 rfl 3) (by decide) rfl rfl (by omega) rfl rfl hR (by omega) (by omega) fun f=>?_
 simp (implicitDefEqProofs:=false) only [pb,pickN,s15,s16,s17,s18,s19,s20,s23,f1,a1,e6,e7,z2]
end Go.Proofs.YtlofiplkmgmnfaaC

/- FnExactIdeal: what the plain programs say. Conditions: none. -/
import Derived.Test.YtlofiplkmgmnfaaXMI
import Derived.Test.YtlofiplkmgmnfaaKe
import Derived.Test.YtlofiplkmgmnfaaXSUb
namespace Go.Proofs.YtlofiplkmgmnfaaC
set_option linter.unusedVariables false
set_option linter.unusedSimpArgs false
def ys_FnExactIdeal:List Ty:=yNet++[.sl yBool,.sl yBool]
theorem mk_bnd (es:List Ty) (hm:mkOk es=true) (hl:es.length≤63) {xs:List (List T)} (hw:∀ r∈xs,WTs es r) (n:Nat):n≤(mkRows (mkR es) n xs).1∧(mkRows (mkR es) n xs).1≤n+64 * bulkRs xs :=
 mkRows_le (g:=mkR es) (xs:=xs) (fun m r hr=>by
  have:=mkR_le es m r hm (hw r hr)
  omega) n
theorem rec_seq {r:Rcd} (h:recOk r=true):1≤r.seq∧r.seq≤100000:=by
 unfold recOk at h
 simp only [Bool.and_eq_true,inB_iff] at h
 exact h.1.2
theorem okRcd_of {r:Rcd} (h:recOk r=true):OkRcd r∧r.near.length≤6:=by
 have h1:=rec_kind h
 have h2:=rec_seq h
 have h6:=rec_near h
 have hn:∀ y∈r.near,OkNear y:=by
  intro y hy
  unfold recOk at h
  simp only [Bool.and_eq_true] at h
  have h:=h.2
  split at h
  ·simp only [Bool.and_eq_true] at h
   have:=nearOk_all h.1.1.2 hy
   exact ⟨I64.mk (by omega) (by omega),I64.mk (by omega) (by omega)⟩
  ·have:r.near.length=0:=by
    split at h
    ·simp only [Bool.and_eq_true,decide_eq_true_eq] at h;omega
    ·split at h
     ·simp only [Bool.and_eq_true,decide_eq_true_eq] at h;omega
     ·cases h
   rw [List.eq_nil_of_length_eq_zero this] at hy;cases hy
 have hb:(-10≤r.area∧r.area≤10)∧(-10≤r.key∧r.key≤10)∧(-10≤r.cost∧r.cost≤60000):=by
  unfold recOk at h
  simp only [Bool.and_eq_true] at h
  have h:=h.2
  split at h
  ·simp only [Bool.and_eq_true,inB_iff,decide_eq_true_eq] at h;omega
  ·split at h
   ·simp only [Bool.and_eq_true,inB_iff,decide_eq_true_eq] at h;omega
   ·split at h
    ·simp only [Bool.and_eq_true,Bool.or_eq_true,inB_iff,decide_eq_true_eq] at h;omega
    ·cases h
 exact ⟨⟨I64.mk (by omega) (by omega),I64.mk (by omega) (by omega),I64.mk (by omega) (by omega),I64.mk (by omega) (by omega),I64.mk (by omega) (by omega),⟨by unfold maxLen;omega,hn⟩,I64.mk (by omega) (by omega)⟩,h6⟩
theorem blks_few {l:List Rcd} (h:∀ r∈l,r.near.length≤6):blks blkRcd l≤7 * l.length:=by
 induction l with
 | nil=>simp [blks]
 | cons r l ih =>
  have h1:=h r (.head _)
  have h2:=ih fun y hy=>h y (.tail _ hy)
  have h3:∀ m:List Near,blks blkNear m=m.length:=by
   intro m;induction m with
   | nil=>rfl
   | cons a m ih=>simp only [blks,ih,blkNear,List.length_cons];omega
  simp only [blks,blkRcd,h3,List.length_cons]
  omega
theorem idealOut_ok (x:Net) (L U:List Bool):∃ B f,(if idealB x L U=true then [T.l ((ideal x L U).map eRcd),bb true] else [T.l [],bb false])=[T.l (B.map eRcd),bb f]∧(∀ r∈B,OkRcd r)∧B.length≤130∧blks blkRcd B≤1000:=by
 by_cases h:idealB x L U=true
 ·have hs:=ideal_sto (L:=L) (U:=U) (idealB_iff h).1
  have hr:∀ r∈ideal x L U,recOk r=true:=hs.2.1
  have hl:=hs.len
  have hb:=blks_few fun r hr'=>(okRcd_of (hr r hr')).2
  exact ⟨_,_,by rw [if_pos h],fun r hr'=>(okRcd_of (hr r hr')).1,by omega,by omega⟩
 ·exact ⟨[],false,by rw [if_neg h];rfl,by simp,by simp,by simp [blks]⟩
theorem true_FnExactIdeal (ts:List T) (h0:WTs ys_FnExactIdeal ts):F_FnExactIdeal ts=some [.c (.bool true)]:=by
 obtain ⟨ws,us,rfl,h,hu⟩:=WTs_split (fs:=yNet) h0
 obtain ⟨t1,_,rfl,q1,t2,_,rfl,q2,rfl⟩:=WTsU_of hu
 have q1':=q1
 have q2':=q2
 unfold WT at q1 q2
 obtain ⟨z1,rfl,m1,g1⟩:=q1
 obtain ⟨L,rfl,hL⟩:=dec_list dBool g1
 obtain ⟨z2,rfl,m2,g2⟩:=q2
 obtain ⟨U,rfl,hU⟩:=dec_list dBool g2
 rw [List.length_map] at m1 m2
 obtain ⟨x,rfl,hx⟩:=dNet ws h
 have s20:S_FnExactIdeal 20=F_eqRecordS:=rfl
 have s31:S_FnExactIdeal 31=F_szNet:=rfl
 have s32:S_FnExactIdeal 32=F_s_Ideal:=rfl
 have s33:S_FnExactIdeal 33=F_toNet:=rfl
 have s34:S_FnExactIdeal 34=F_toBoolS:=rfl
 have s35:S_FnExactIdeal 35=F_i_Ideal:=rfl
 have s36:S_FnExactIdeal 36=F_eqNet:=rfl
 have s37:S_FnExactIdeal 37=F_eqBoolS:=rfl
 have s40:S_FnExactIdeal 40=F_heldRecordS:=rfl
 simp only [eNet,List.cons_append,List.nil_append] at h ⊢
 by_cases i1:((L.map eBool).length:Int) > 1048576
 ·simp (implicitDefEqProofs:=false) only [F_FnExactIdeal,p_FnExactIdeal,pb,pickN,i1]
 by_cases i2:((U.map eBool).length:Int) > 1048576
 ·simp (implicitDefEqProofs:=false) only [F_FnExactIdeal,p_FnExactIdeal,pb,pickN,i1,i2]
 have j1:=i1
 have j2:=i2
 rw [List.length_map] at j1 j2
 obtain ⟨n,e1,b1,c1⟩:=so_szNet _ 1048576 h (by omega) (by omega)
 rw [show bulkR [ii x.n,T.l (x.links.map eLink),T.l (x.things.map eThing)]=blkNet x from bNet x] at c1
 simp only [List.cons_append,List.nil_append] at e1
 by_cases q:n < 0
 ·simp (implicitDefEqProofs:=false) only [F_FnExactIdeal,p_FnExactIdeal,pb,pickN,s31,e1,i1,i2,q]
 have c2:=c1 (by omega)
 have hb:blkNet x≤1048576:=by omega
 have hb':bulkR [ii x.n,T.l (x.links.map eLink),T.l (x.things.map eThing)]≤1048576:=by
  rw [show bulkR [ii x.n,T.l (x.links.map eLink),T.l (x.things.map eThing)]=blkNet x from bNet x];exact hb
 have e2:=so_toNet _ h hb'
 have e3:=so_eqNet _ h hb'
 simp only [List.cons_append,List.nil_append] at e2 e3
 have lenB:∀ m:List Bool,blks blkBool m=m.length:=by
  intro m;induction m with
  | nil=>rfl
  | cons a m ih=>simp only [blks,ih,blkBool,List.length_cons];omega
 have wL:WTs [.sl yBool] [.l (L.map eBool)]:=WTs_sl (by rw [List.length_map];exact m1) g1
 have wU:WTs [.sl yBool] [.l (U.map eBool)]:=WTs_sl (by rw [List.length_map];exact m2) g2
 have bL:bulkR [T.l (L.map eBool)]≤1048576:=by rw [bulkR_cons,bulkR_nil,bulk_l,blks_eq bBool,lenB];omega
 have bU:bulkR [T.l (U.map eBool)]≤1048576:=by rw [bulkR_cons,bulkR_nil,bulk_l,blks_eq bBool,lenB];omega
 have f1:=so_toBoolS _ wL bL
 have f2:=so_toBoolS _ wU bU
 have f3:=so_eqBoolS _ wL bL
 have f4:=so_eqBoolS _ wU bU
 simp only [List.cons_append,List.nil_append] at f3 f4
 unfold blkNet at hb
 have h1:=blks_len (f:=blkLink) x.links
 have h2:=blks_len (f:=blkThing) x.things
 have a1:=e_i_Ideal x.n x.links x.things L U (by omega) (by omega)
 have a2:=e_s_Ideal x.n x.links x.things L U (by omega) (by omega)
 rw [show (⟨x.n,x.links,x.things⟩:Net)=x from rfl] at a1 a2
 obtain ⟨B,fl,hB,r1,r2,r3⟩:=idealOut_ok x L U
 rw [hB] at a1 a2
 have hR:=enc_list wRcd r1
 have hwR:WTs [.sl yRcd] [.l (B.map eRcd)]:=WTs_sl (by rw [List.length_map];unfold maxLen;omega) hR
 have hbR:bulkRs (B.map eRcd)≤1000:=by rw [blks_eq bRcd];exact r3
 have hbR':bulkR [T.l (B.map eRcd)]≤1048576:=by rw [bulkR_cons,bulkR_nil,bulk_l];omega
 have e6:=so_eqRecordS _ hwR hbR'
 simp only [List.cons_append,List.nil_append] at e6
 have e7:=so_heldRecordS 1 _ hwR hbR' (by rw [bulkR_cons,bulkR_nil,bulk_l];omega)
 rw [mkR_cons,mkR_nil,mkT_sl] at e7
 have e7:F_heldRecordS [.l (mkRows (mkR yRcd) 1 (B.map eRcd)).2,.c (.int .i64 1)]=some [.c (.int .i64 ((mkRows (mkR yRcd) 1 (B.map eRcd)).1:Int))]:=e7
 obtain ⟨_,⟨_,o1⟩,⟨_,o2⟩⟩:=hx
 have w1:=enc_list wLink o1
 have w2:=enc_list wThing o2
 have k1:=blks_eq bLink x.links
 have k2:=blks_eq bThing x.things
 have k3:=blks_eq bBool L
 have k4:=blks_eq bBool U
 rw [lenB] at k3 k4
 obtain ⟨n1,q1⟩:∃ n1,n1=(mkRows (mkR yLink) 1 (x.links.map eLink)).1:=⟨_,rfl⟩
 have m1:=mk_bnd yLink rfl (by decide) w1 1
 rw [← q1] at m1
 obtain ⟨n2,q2⟩:∃ n2,n2=(mkRows (mkR yThing) n1 (x.things.map eThing)).1:=⟨_,rfl⟩
 have m2:=mk_bnd yThing rfl (by decide) w2 n1
 rw [← q2] at m2
 obtain ⟨n3,q3⟩:∃ n3,n3=(mkRows (mkR yBool) n2 (L.map eBool)).1:=⟨_,rfl⟩
 have m3:=mk_bnd yBool rfl (by decide) g1 n2
 rw [← q3] at m3
 obtain ⟨n4,q4⟩:∃ n4,n4=(mkRows (mkR yBool) n3 (U.map eBool)).1:=⟨_,rfl⟩
 have m4:=mk_bnd yBool rfl (by decide) g2 n3
 rw [← q4] at m4
 have m6:=mk_bnd yRcd rfl (by decide) hR 1
 rw [k1] at m1;rw [k2] at m2;rw [k3] at m3;rw [k4] at m4
 have z1:¬ ((n4:Int) < 0):=by omega
 have z2:¬ (((mkRows (mkR yRcd) 1 (B.map eRcd)).1:Int) < 0):=by omega
 simp (implicitDefEqProofs:=false) only [F_FnExactIdeal,p_FnExactIdeal,pb,pickN,s20,s31,s32,s33,s34,s35,s36,s37,e1,e2,e3,f1,f2,f3,f4,a1,a2,e6,q,i1,i2]
 refine lv_top (es:=yLink) (flds:=mkFsP yLink 4 0) (cl:=.k (.int .i64 1)) (s:=19) (p:=39) (n:=1) (mkFs_ok yLink 0 rfl 4) (by decide) rfl rfl (by omega) rfl rfl w1 (by omega) (by omega) fun f=>?_
 rw [← q1]
 refine lv_top (es:=yThing) (flds:=mkFsP yThing 4 0) (cl:=.a 39) (s:=20) (p:=44) (n:=n1) (mkFs_ok yThing 0 rfl 4) (by decide) rfl rfl (by omega) rfl rfl w2 (by omega) (by omega) fun f=>?_
 rw [← q2]
 refine lv_top (es:=yBool) (flds:=mkFsP yBool 1 0) (cl:=.a 44) (s:=21) (p:=49) (n:=n2) (mkFs_ok yBool 0 rfl 1) (by decide) rfl rfl (by omega) rfl rfl g1 (by omega) (by omega) fun f=>?_
 rw [← q3]
 refine lv_top (es:=yBool) (flds:=mkFsP yBool 1 0) (cl:=.a 49) (s:=22) (p:=54) (n:=n3) (mkFs_ok yBool 0 rfl 1) (by decide) rfl rfl (by omega) rfl rfl g2 (by omega) (by omega) fun f=>?_
 rw [← q4]
 simp (implicitDefEqProofs:=false) only [pb,pickN,s20,e6,z1]
 refine lv_top (es:=yRcd) (flds:=mkFsP yRcd 8 0) (cl:=.k (.int .i64 1)) (s:=23) (p:=63) (n:=1) (mkFs_ok yRcd 0 rfl 8) (by decide) rfl rfl (by omega) rfl rfl hR (by omega) (by omega) fun f=>?_
 simp (implicitDefEqProofs:=false) only [pb,pickN,s20,s33,s34,s35,s40,e2,f1,f2,a1,e6,e7,z2]
end Go.Proofs.YtlofiplkmgmnfaaC

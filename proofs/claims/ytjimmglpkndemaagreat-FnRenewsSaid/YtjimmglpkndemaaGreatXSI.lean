/- Both programs find the shortest ways. Conditions: none. -/
import Derived.Test.YtjimmglpkndemaaGreatXSH
namespace Go.Proofs.YtjimmglpkndemaaGreatC
open Int renaming reduceLE → Q0_, reduceLT → Q1_, reduceEq → Q2_, reduceGT → Q3_, reduceGE → Q4_, reduceAdd → Q5_, reduceSub → Q6_, reduceMul → Q7_, reduceNeg → Q8_
set_option linter.unusedVariables false
set_option linter.unusedSimpArgs false
theorem aFi_ (W:List Way):(qV_ W).length≤W.length:=List.length_filter_le _ _
set_option maxHeartbeats 1600000 in
theorem ag0_ (s:List Rcd) (ar fr:Int) (h:s.length≤1048576) (hn:NearL s):wj_ [.l (s.map eRcd),ii ar,ii fr]=some [.l ((waysIn s ar fr).map eWay)]:=by
 have hP:=uG_ s ar fr
 rw [aCd_];simp (disch:=omega) only [↓pq,↓pj,ps,pz,↓reduceIte,Q0_,Q1_,Q2_,Q3_,Q4_,Q5_,Q6_,Q7_,Q8_,yh_,yj_,yi_,yd_,agc_,alo_ _ h hn,aco_,qu_]
 rw [← zT_]
 unfold waysIn
 cases hs:ze_ s with
 | false=>simp
 | true =>
 cases h6:inB fr 1 6 with
 | false=>simp
 | true =>
 have h6':=inB_iff.1 h6
 by_cases hp:zT_ s ar fr < 0
 ·have hq:¬ (0≤zT_ s ar fr):=by omega
  simp [hp,hq]
 have hq:0≤zT_ s ar fr:=by omega
 rw [if_pos (show (true=true∧true=true∧0≤zT_ s ar fr) from ⟨rfl,rfl,hq⟩)]
 have hm:=acx_ (enc:=eWay) (n:=7) (x:=way0) (vs:=[ii 0,ii 0,.l []]) (by decide) rfl
 have hl7:(List.replicate 7 way0).length=7:=by simp
 have hlt:fr < ((List.replicate 7 way0).length:Int):=by rw [hl7];omega
 have hput:Prim.ev (.put true 3 0 1) [.l ((List.replicate 7 way0).map eWay),ii fr,ii fr]=some (.l ((W0 fr).map eWay)):=by
  rw [aHo_ (by omega) hlt,acu_ (by omega) (by omega)];rfl
 simp only [not_true_eq_false,if_false,hp]
 rw [show Prim.ev .mk [ii 7,ii 7,ii 0,ii 0,.l []]=some (.l ((List.replicate 7 way0).map eWay)) from hm,zd_,akd_ (by omega) hlt,zd_,hput,zd_]
 refine aI8_ hs (fun W D=>[.l (D.map eInt),.l (W.map eWay)]) (fun W D=>some [.l ((qV_ W).map eWay)]) ?_ (fun W D _ _=>rfl) 6 (W0 fr) [] rounds (DInv.start h6') rfl (by unfold rounds;omega)
 intro W D q hI
 simp (disch:=omega) only [↓pq,↓pj,ps,pz,↓reduceIte,Q0_,Q1_,Q2_,Q3_,Q4_,Q5_,Q6_,Q7_,Q8_,yh_,yj_,yi_,yd_,]
 have hW:=hI.ok
 have hWl:=hW.len
 have hD:=hI.len
 have hc:∀ v:Int,0≤v→v < 7→0≤(gt W v).cost∧(gt W v).cost≤6000:=fun v h0 h1=>by have:=hW.cost v h0 h1;omega
 refine yV_ 6 (fun i b=>[ii b,ii (i+1)]) (v7_ W D) (fun b=>if b=0 then some [T.l ((qV_ W).map eWay)] else q [T.l ((D++[b]).map eInt),T.l ((spr s ar fr b W).map eWay)]) 0 (fun i b=>0≤b∧b≤6∧((i:Int)≤6→b≠0→(gt W b).to≠0)) rfl (za_ (by omega)) (by simp) ?_ ?_ |>.trans (by rfl)
 ·intro i b hi ⟨hb0,hb6,hbt⟩
  refine ⟨?_,fun w=>?_⟩
  ·unfold v7_
   split
   ·rename_i hx;exact ⟨by omega,by omega,fun _ _=>hx.1⟩
   ·exact ⟨hb0,hb6,fun h1=>hbt (by omega)⟩
  ·have hi':(i:Int)+1≤6:=by omega
   simp (disch:=omega) only [↓pq,↓pj,ps,pz,↓reduceIte,Q0_,Q1_,Q2_,Q3_,Q4_,Q5_,Q6_,Q7_,Q8_,yh_,yj_,yi_,yd_,hi',xM_ _ _ (show D.length≤1048576 by omega)]
   unfold v7_
   cases hcd:D.contains ((i:Int)+1) <;> by_cases q1:(gt W ((i:Int)+1)).to=0 <;> by_cases q2:b=0 <;> by_cases q3:(gt W ((i:Int)+1)).cost < (gt W b).cost <;> simp [q1,q2,q3]
 ·intro b w ⟨hb0,hb6,hbt⟩
  simp (disch:=omega) only [↓pq,↓pj,ps,pz,↓reduceIte,Q0_,Q1_,Q2_,Q3_,Q4_,Q5_,Q6_,Q7_,Q8_,yh_,yj_,yi_,yd_,]
  by_cases hb:b=0
  ·simp only [hb,if_true]
   have hz:Prim.ev .len [.l (W.map eWay)]=some (ii W.length):=ky_
   refine (zj_ W (fun i c=>[.l (c.map eWay),ii i,.l (gneL eWay W i)]) (fun c w=>if (!(w.to == 0))=true then c++[w] else c) (fun c=>some [T.l (c.map eWay)]) [] (fun i c=>c.length≤i) rfl (za_ (by omega)) (by simp) ?_ ?_).trans (by rw [ww_,List.nil_append,← qV_])
   ·intro i c hi hcl
    refine ⟨by split <;> (try simp) <;> omega,fun w=>?_⟩
    have hi':i < W.length:=by omega
    simp (disch:=omega) only [↓pq,↓pj,ps,pz,↓reduceIte,Q0_,Q1_,Q2_,Q3_,Q4_,Q5_,Q6_,Q7_,Q8_,yh_,yj_,yi_,yd_,hi,aOq_ (enc:=eWay) (fun _=>rfl) hi']
    by_cases q1:(gt W (i:Int)).to=0 <;> simp [q1]
   ·intro c w hcl
    simp (disch:=omega) only [↓pq,↓pj,ps,pz,↓reduceIte,Q0_,Q1_,Q2_,Q3_,Q4_,Q5_,Q6_,Q7_,Q8_,yh_,yj_,yi_,yd_,]
  ·simp only [hb,if_false]
   have hb1:1≤b∧b≤6:=by omega
   refine yV_ 6 (fun i W=>[ii (i+1),.l (W.map eWay)]) (y5_ s ar fr b) (fun W'=>q [T.l ((D++[b]).map eInt),T.l (W'.map eWay)]) W (fun _ W'=>WOk1 W' (1000 * D.length+1000)∧gt W' b=gt W b) rfl (za_ (by omega)) ⟨hW.mono (by omega),rfl⟩ ?_ ?_
   ·intro i W' hi ⟨hW',hgb⟩
    have hcb:=hW.cost b (by omega) (by omega)
    have hst:=ado_ hs ar fr hb1 (by omega) hW' (by rw [hgb];exact hcb.2) (show i < 6 by omega)
    refine ⟨⟨hst.1,hst.2.trans hgb⟩,fun w=>?_⟩
    have hi':(i:Int)+1≤6:=by omega
    have hl':=hW'.len
    have hlk:=ux_ hs ar b ((i:Int)+1)
    have hcb':=hW'.cost b (by omega) (by omega)
    have hco':=hW'.cost ((i:Int)+1) (by omega) (by omega)
    have hhb:=hW'.hops b (by omega) (by omega)
    have hho:=hW'.hops ((i:Int)+1) (by omega) (by omega)
    have hhl:=xC_ hhb
    have hnew:zs_ (if b=fr then [(i:Int)+1] else (gt W' b).hops):=by
     split
     ·exact qw_ (by omega) (by omega)
     ·exact hhb
    have htn:((i:Int)+1).toNat=i+1:=by omega
    have hT1:=fun c=>qv_ (gt W' ((i:Int)+1)).to (gt W' ((i:Int)+1)).cost (gt W' ((i:Int)+1)).hops ((i:Int)+1) c [(i:Int)+1] hho (qw_ (by omega) (by omega))
    have hT2:=fun c=>qv_ (gt W' ((i:Int)+1)).to (gt W' ((i:Int)+1)).cost (gt W' ((i:Int)+1)).hops ((i:Int)+1) c (gt W' b).hops hho hhb
    unfold y5_
    by_cases q1:zk_ s ar b ((i:Int)+1)=0
    ·simp (disch:=omega) only [↓pq,↓pj,ps,pz,↓reduceIte,Q0_,Q1_,Q2_,Q3_,Q4_,Q5_,Q6_,Q7_,Q8_,yh_,yj_,yi_,yd_,hi',wT_ _ _ _ _ h hn,q1,true_or]
    by_cases q2:(i:Int)+1=fr
    ·simp (disch:=omega) only [↓pq,↓pj,ps,pz,↓reduceIte,Q0_,Q1_,Q2_,Q3_,Q4_,Q5_,Q6_,Q7_,Q8_,yh_,yj_,yi_,yd_,hi',wT_ _ _ _ _ h hn,q1,eq_true q2,or_true]
    by_cases q3:b=fr
    ·have q3':=eq_true q3
     by_cases q4:(gt W' ((i:Int)+1)).to=0
     ·simp (disch:=omega) only [↓pq,↓pj,ps,pz,↓reduceIte,Q0_,Q1_,Q2_,Q3_,Q4_,Q5_,Q6_,Q7_,Q8_,yh_,yj_,yi_,yd_,hi',wT_ _ _ _ _ h hn,q1,q2,q3',q4,yq_ _ (show (gt W' b).hops.length≤1048576 by omega),abf_,uK_,htn,true_or]
     by_cases q5:(gt W' b).cost+zk_ s ar b ((i:Int)+1) < (gt W' ((i:Int)+1)).cost
     ·simp (disch:=omega) only [↓pq,↓pj,ps,pz,↓reduceIte,Q0_,Q1_,Q2_,Q3_,Q4_,Q5_,Q6_,Q7_,Q8_,yh_,yj_,yi_,yd_,hi',wT_ _ _ _ _ h hn,q1,q2,q3',q4,q5,yq_ _ (show (gt W' b).hops.length≤1048576 by omega),abf_,uK_,htn,or_true]
     by_cases q6:(gt W' b).cost+zk_ s ar b ((i:Int)+1)=(gt W' ((i:Int)+1)).cost
     ·simp (disch:=omega) only [↓pq,↓pj,ps,pz,↓reduceIte,Q0_,Q1_,Q2_,Q3_,Q4_,Q5_,Q6_,Q7_,Q8_,yh_,yj_,yi_,yd_,hi',wT_ _ _ _ _ h hn,q1,q2,q3',q4,q5,q6,yq_ _ (show (gt W' b).hops.length≤1048576 by omega),hT1,eWay,abf_,uK_,htn,or_self]
     ·simp (disch:=omega) only [↓pq,↓pj,ps,pz,↓reduceIte,Q0_,Q1_,Q2_,Q3_,Q4_,Q5_,Q6_,Q7_,Q8_,yh_,yj_,yi_,yd_,hi',wT_ _ _ _ _ h hn,q1,q2,q3',q4,q5,q6,yq_ _ (show (gt W' b).hops.length≤1048576 by omega),or_self]
    ·have q3':=eq_false q3
     by_cases q4:(gt W' ((i:Int)+1)).to=0
     ·simp (disch:=omega) only [↓pq,↓pj,ps,pz,↓reduceIte,Q0_,Q1_,Q2_,Q3_,Q4_,Q5_,Q6_,Q7_,Q8_,yh_,yj_,yi_,yd_,hi',wT_ _ _ _ _ h hn,q1,q2,q3',q4,yq_ _ (show (gt W' b).hops.length≤1048576 by omega),abf_,uK_,htn,true_or]
     by_cases q5:(gt W' b).cost+zk_ s ar b ((i:Int)+1) < (gt W' ((i:Int)+1)).cost
     ·simp (disch:=omega) only [↓pq,↓pj,ps,pz,↓reduceIte,Q0_,Q1_,Q2_,Q3_,Q4_,Q5_,Q6_,Q7_,Q8_,yh_,yj_,yi_,yd_,hi',wT_ _ _ _ _ h hn,q1,q2,q3',q4,q5,yq_ _ (show (gt W' b).hops.length≤1048576 by omega),abf_,uK_,htn,or_true]
     by_cases q6:(gt W' b).cost+zk_ s ar b ((i:Int)+1)=(gt W' ((i:Int)+1)).cost
     ·simp (disch:=omega) only [↓pq,↓pj,ps,pz,↓reduceIte,Q0_,Q1_,Q2_,Q3_,Q4_,Q5_,Q6_,Q7_,Q8_,yh_,yj_,yi_,yd_,hi',wT_ _ _ _ _ h hn,q1,q2,q3',q4,q5,q6,yq_ _ (show (gt W' b).hops.length≤1048576 by omega),hT2,eWay,abf_,uK_,htn,or_self]
     ·simp (disch:=omega) only [↓pq,↓pj,ps,pz,↓reduceIte,Q0_,Q1_,Q2_,Q3_,Q4_,Q5_,Q6_,Q7_,Q8_,yh_,yj_,yi_,yd_,hi',wT_ _ _ _ _ h hn,q1,q2,q3',q4,q5,q6,yq_ _ (show (gt W' b).hops.length≤1048576 by omega),or_self]
   ·intro W' w _
    simp (disch:=omega) only [↓pq,↓pj,ps,pz,↓reduceIte,Q0_,Q1_,Q2_,Q3_,Q4_,Q5_,Q6_,Q7_,Q8_,yh_,yj_,yi_,yd_,]
end Go.Proofs.YtjimmglpkndemaaGreatC

/- The reference finds the shortest ways, too. Conditions: none. -/
import Derived.Test.YtjimmglpkndemaaGreatXSI
namespace Go.Proofs.YtjimmglpkndemaaGreatC
open Int renaming reduceLE → Q0_, reduceLT → Q1_, reduceEq → Q2_, reduceGT → Q3_, reduceGE → Q4_, reduceAdd → Q5_, reduceSub → Q6_, reduceMul → Q7_, reduceNeg → Q8_
set_option linter.unusedVariables false
set_option linter.unusedSimpArgs false
theorem aew_:six=(List.range 6).map fun i:Nat=>(i:Int)+1:=rfl
theorem aaw_ (a b:List Int) (ha:a.length≤1048576) (hb:b.length≤1048576):wC_ [.l (a.map eInt),.l (b.map eInt)]=some [.l ((uni a b).map eInt)]:=by
 rw [aEh_];simp (disch:=omega) only [↓pq,↓pj,ps,pz,↓reduceIte,Q0_,Q1_,Q2_,Q3_,Q4_,Q5_,Q6_,Q7_,Q8_,jp_,ahg_]
 refine (yV_ 6 (fun i c=>[.l (c.map eInt),ii (i+1)]) (fun c i=>if (a.contains ((i:Int)+1) || b.contains ((i:Int)+1))=true then c++[(i:Int)+1] else c) (fun c=>some [T.l (c.map eInt)]) [] (fun i c=>c.length≤i) rfl (za_ (by omega)) (by simp) ?_ ?_).trans ?_
 ·intro i c hi hc
  refine ⟨by split <;> (try simp) <;> omega,fun q=>?_⟩
  have hi':(i:Int)+1≤6:=by omega
  cases h1:a.contains ((i:Int)+1) <;> cases h2:b.contains ((i:Int)+1) <;> simp (disch:=omega) only [↓pq,↓pj,ps,pz,↓reduceIte,Q0_,Q1_,Q2_,Q3_,Q4_,Q5_,Q6_,Q7_,Q8_,jp_,hi',aqr_ _ _ ha,aqr_ _ _ hb,h1,h2,Bool.or_true,Bool.or_false,bF_]
 ·intro c q hc
  simp (disch:=omega) only [↓pq,↓pj,ps,pz,↓reduceIte,Q0_,Q1_,Q2_,Q3_,Q4_,Q5_,Q6_,Q7_,Q8_,jp_,]
 ·rw [vR_ (fun i:Nat=>a.contains ((i:Int)+1) || b.contains ((i:Int)+1)) (fun i:Nat=>(i:Int)+1),List.nil_append]
  unfold uni
  rw [aew_,List.filter_map]
  rfl
theorem aD2_ (a b:Int) (t:T) (a' b':Int) (t':T):qO_ [ii a,ii b,t,ii a',ii b',t']=some [bb (decide (b < b'))]:=by
 rw [aCx_];simp (disch:=omega) only [↓pq,↓pj,ps,pz,↓reduceIte,Q0_,Q1_,Q2_,Q3_,Q4_,Q5_,Q6_,Q7_,Q8_,agb_]
theorem aj1_ (a b:Int) (l:List Int) (a' b':Int) (l':List Int) (h:l.length≤1048576) (h':l'.length≤1048576):wv_ [ii a,ii b,.l (l.map eInt),ii a',ii b',.l (l'.map eInt)]=some (eWay (tog ⟨a,b,l⟩ ⟨a',b',l'⟩)):=by
 rw [at5_];simp (disch:=omega) only [↓pq,↓pj,ps,pz,↓reduceIte,Q0_,Q1_,Q2_,Q3_,Q4_,Q5_,Q6_,Q7_,Q8_,acg_,aD2_,ael_ _ _ _ h,ael_ _ _ _ h',aaw_ _ _ h h']
 unfold tog
 by_cases h1:b < b'
 ·have h2:b' > b:=h1
  simp only [h1,h2,if_true];rfl
 ·have h2:¬ (b' > b):=h1
  by_cases h3:b' < b
  ·have h4:b > b':=h3
   simp only [h1,h2,h3,h4,if_true,if_false];rfl
  ·have h4:¬ (b > b'):=h3
   simp only [h1,h2,h3,h4,if_false];rfl
def vp_ (W:List Way):List Int:=tab fun i=>if i=0 then 0 else if (gt W (i:Int)).to=0 then -1 else (gt W (i:Int)).cost
def uc_ (W:List Way):List (List Int):=tab fun i=>(gt W (i:Int)).hops
def qg_ (D:List Int):List Bool:=tab fun i=>D.contains (i:Int)
theorem abu_ (W:List Way) {v:Int} (h:1≤v) (h':v≤6):gt (vp_ W) v=if (gt W v).to=0 then -1 else (gt W v).cost:=by
 unfold vp_
 rw [aua_ _ (by omega) (by omega),if_neg (by omega),show ((v.toNat:Nat):Int)=v by omega]
theorem alu_ (W:List Way) {v:Int} (h:0≤v) (h':v≤6):gt (uc_ W) v=(gt W v).hops:=by
 unfold uc_
 rw [aua_ _ h (by omega),show ((v.toNat:Nat):Int)=v by omega]
theorem aly_ (D:List Int) {v:Int} (h:0≤v) (h':v≤6):gt (qg_ D) v=D.contains v:=by
 unfold qg_
 rw [aua_ _ h (by omega),show ((v.toNat:Nat):Int)=v by omega]
theorem aii_ (W:List Way):(vp_ W).length=7:=afb_ _
theorem aix_ (W:List Way):(uc_ W).length=7:=afb_ _
theorem aiw_ (D:List Int):(qg_ D).length=7:=afb_ _
theorem aaf_ {W:List Way} (hl:W.length=7) {i:Nat} (hi:i < 6) {w:Way} (ht:w.to≠0):vp_ (W.set (i+1) w)=(vp_ W).set (i+1) w.cost:=by
 unfold vp_
 rw [aff_]
 refine jS_ fun j hj=>?_
 rw [wK_ hl hi (by omega)]
 by_cases h:j=i+1
 ·subst h
  simp [ht]
 ·rw [if_neg (show ¬ ((j:Int)=(i:Int)+1) by omega),if_neg h]
theorem jU_ {W:List Way} (hl:W.length=7) {i:Nat} (hi:i < 6) (w:Way):uc_ (W.set (i+1) w)=(uc_ W).set (i+1) w.hops:=by
 unfold uc_
 rw [aff_]
 refine jS_ fun j hj=>?_
 rw [wK_ hl hi (by omega)]
 by_cases h:j=i+1
 ·subst h
  rw [if_pos (by simp),if_pos rfl]
 ·rw [if_neg (show ¬ ((j:Int)=(i:Int)+1) by omega),if_neg h]
theorem ao2_ {W:List Way} (hl:W.length=7) {i:Nat} (hi:i < 6) {w:Way} (ht:w.to≠0) (h0:(gt W ((i:Int)+1)).to≠0) (hc:w.cost=(gt W ((i:Int)+1)).cost):vp_ (W.set (i+1) w)=vp_ W:=by
 rw [aaf_ hl hi ht]
 unfold vp_
 rw [aff_]
 refine jS_ fun j hj=>?_
 by_cases h:j=i+1
 ·subst h
  rw [if_pos rfl,if_neg (by omega),if_neg (by simpa using h0),hc]
  simp
 ·rw [if_neg h]
theorem aHk_ (D:List Int) {b:Int} (h:1≤b) (h':b≤6):(qg_ D).set b.toNat true=qg_ (D++[b]):=by
 unfold qg_
 rw [aff_]
 refine jS_ fun j hj=>?_
 by_cases e:j=b.toNat
 ·rw [if_pos e]
  have:(j:Int)=b:=by omega
  rw [this]
  simp
 ·rw [if_neg e]
  have:¬ ((j:Int)=b):=by omega
  rw [Bool.eq_iff_iff,List.contains_iff_mem,List.contains_iff_mem]
  simp [this]
theorem aKo_ {W:List Way} (h:W.length=7):W=tab fun i=>gt W (i:Int):=by
 refine List.ext_getElem (by rw [afb_,h]) fun i h1 h2=>?_
 simp only [tab,List.getElem_map,List.getElem_range]
 rw [zm_ h1]
theorem aFy_ {s:List Rcd} (hs:ze_ s=true) {ar fr:Int} {F:Sem1→Sem1} (st:Int→List Way→List Int→List T) {out:List Way→Option (List T)}
  (hA:∀ W D q,DInv fr W D→D.length < 6→best W D=0→F q (st (D.length+1) W D)=q (st 7 W D))
  (hB:∀ W D q,DInv fr W D→D.length < 6→best W D≠0→F q (st (D.length+1) W D)=q (st (D.length+1+1) (spr s ar fr (best W D) W) (D++[best W D])))
  (fin:∀ W D q,DInv fr W D→best W D=0→F q (st 7 W D)=out W) :
  ∀ k W D R,DInv fr W D→D.length+k=6→k+1 < R→iter F R (st (D.length+1) W D)=out (dij s ar fr k W D):=by
 intro k
 induction k with
 | zero =>
  intro W D R h hk hR
  cases R with
  | zero=>omega
  | succ R =>
   have hb:=h.full (by omega)
   unfold iter
   rw [show ((D.length:Int)+1)=7 by omega]
   exact fin W D _ h hb
 | succ k ih =>
  intro W D R h hk hR
  cases R with
  | zero=>omega
  | succ R =>
   unfold iter
   by_cases hb:best W D=0
   ·rw [hA W D _ h (by omega) hb]
    cases R with
    | zero=>omega
    | succ R =>
     unfold iter
     rw [fin W D _ h hb]
     unfold dij
     rw [if_pos hb]
   ·rw [hB W D _ h (by omega) hb]
    have:=ih _ _ R (h.step hs ar hb) (by simp;omega) (by omega)
    rw [show (((D++[best W D]).length:Int)+1)=D.length+1+1 by simp] at this
    rw [this]
    conv=>rhs;unfold dij
    rw [if_neg hb]
theorem aIg_ {W:List Way} {D:List Int} {fr:Int} (h:DInv fr W D) (hb:best W D=0):qV_ W=((List.range 6).filter fun i:Nat=>D.contains ((i:Int)+1)).map fun i:Nat=>(⟨(i:Int)+1,(gt W ((i:Int)+1)).cost,(gt W ((i:Int)+1)).hops⟩:Way):=by
 have hD:=((k9_ W D).resolve_right fun e=>by omega).2
 have e:W=gt W 0 :: (List.range 6).map fun i:Nat=>gt W ((i:Int)+1):=(aKo_ h.ok.len).trans rfl
 have h0:(gt W 0).to=0:=(h.ok.to 0 (by omega) (by omega)).elim id id
 have hf:qV_ W=(((List.range 6).map fun i:Nat=>gt W ((i:Int)+1)).filter fun w=>!(w.to == 0)):=by
  unfold qV_
  conv=>lhs;rw [e]
  rw [List.filter_cons,if_neg (by simp [h0])]
 rw [hf,List.filter_map]
 have hp:∀ i:Nat,i∈List.range 6→((fun w:Way=>!(w.to == 0)) ∘ fun i:Nat=>gt W ((i:Int)+1)) i=D.contains ((i:Int)+1):=by
  intro i hi
  have hi:i < 6:=by simpa using hi
  rw [Bool.eq_iff_iff,List.contains_iff_mem]
  simp only [Function.comp,Bool.not_eq_true',beq_eq_false_iff_ne]
  exact ⟨fun h1=>hD _ (by omega) (by omega) h1,fun h1=>(h.mem _ h1).2⟩
 rw [List.filter_congr hp]
 refine List.map_congr_left fun i hi=>?_
 obtain ⟨h1,h2⟩:=List.mem_filter.1 hi
 have h1:i < 6:=by simpa using h1
 have h3:=(h.mem _ (List.contains_iff_mem.1 h2)).2
 have h4:=(h.ok.to ((i:Int)+1) (by omega) (by omega)).resolve_left h3
 have hw:∀ (w:Way) (n:Int),w.to=n→w=⟨n,w.cost,w.hops⟩:=by intro w n hn;subst hn;rfl
 exact hw _ _ h4
set_option maxHeartbeats 1600000 in
theorem agf_ (s:List Rcd) (ar fr:Int) (h:s.length≤1048576) (hn:NearL s):we_ [.l (s.map eRcd),ii ar,ii fr]=some [.l ((waysIn s ar fr).map eWay)]:=by
 obtain ⟨c0,c1,c2,c3,c4,c6,c7,e⟩:=acp_ s ar fr h
 rw [aDv_];simp (disch:=omega) only [↓pq,↓pj,ps,pz,↓reduceIte,Q0_,Q1_,Q2_,Q3_,Q4_,Q5_,Q6_,Q7_,Q8_,zz_,zB_,zy_,zw_,zA_,af0_,e,kV_ _ h hn,uB_]
 unfold waysIn
 cases hs:ze_ s with
 | false=>simp
 | true =>
 cases h6:inB fr 1 6 with
 | false=>simp
 | true =>
 have h6':=inB_iff.1 h6
 by_cases hq:0≤zT_ s ar fr
 case neg=>simp [hq]
 rw [if_pos (show (true=true∧true=true∧0≤zT_ s ar fr) from ⟨rfl,rfl,hq⟩)]
 have m1:=acx_ (enc:=eInt) (n:=7) (x:=0) (vs:=[ii 0]) (by decide) rfl
 have m2:=acx_ (enc:=qf_) (n:=7) (x:=[]) (vs:=[.l []]) (by decide) rfl
 have m3:=acx_ (enc:=z3_) (n:=7) (x:=false) (vs:=[bb false]) (by decide) rfl
 simp only [not_true_eq_false,if_false,hq]
 rw [aww_ _ _ h hn hs,aLq_]
 rw [show Prim.ev .mk [ii 7,ii 7,ii 0]=some (.l ((List.replicate 7 (0:Int)).map eInt)) from m1,zd_,show Prim.ev .mk [ii 7,ii 7,.l []]=some (.l ((List.replicate 7 ([]:List Int)).map qf_)) from m2,zd_,
  show Prim.ev .mk [ii 7,ii 7,bb false]=some (.l ((List.replicate 7 false).map z3_)) from m3,zd_]
 have hA0:∀ w:List Int,zs_ w→wC_ [.l [],.l (w.map eInt)]=some [.l (w.map eInt)]:=fun w hw=>by
  have:=aaw_ [] w (by simp) (by have:=xC_ hw;omega)
  rw [aBe_ hw] at this
  exact this
 have hML:=aH7_ s ar
 have sel:∀ W D q,DInv fr W D→D.length < 6→zw_ rounds wC_ (ii fr) (T.l []) (T.l (List.map eInt (anb_ s ar))) q [ii (D.length+1),.l ((uc_ W).map qf_),.l ((qg_ D).map z3_),.l ((vp_ W).map eInt)] =
   if best W D=0 then q [ii 7,.l ((uc_ W).map qf_),.l ((qg_ D).map z3_),.l ((vp_ W).map eInt)]
   else q [ii (D.length+1+1),.l ((uc_ (spr s ar fr (best W D) W)).map qf_),.l ((qg_ (D++[best W D])).map z3_),.l ((vp_ (spr s ar fr (best W D) W)).map eInt)]:=by
  intro W D q hI hD
  have hle:(D.length:Int)+1≤6:=by omega
  have hW:=hI.ok
  have hWl:=hW.len
  have l1:=aiw_ D
  have l2:=aii_ W
  have l3:=aix_ W
  simp (disch:=omega) only [↓pq,↓pj,ps,pz,↓reduceIte,Q0_,Q1_,Q2_,Q3_,Q4_,Q5_,Q6_,Q7_,Q8_,zz_,zB_,zy_,zw_,zA_,hle]
  refine yV_ 6 (fun i b=>[ii b,ii (i+1)]) (v7_ W D) (fun b=>if b=0 then q [ii 7,.l ((uc_ W).map qf_),.l ((qg_ D).map z3_),.l ((vp_ W).map eInt)]
   else q [ii (D.length+1+1),.l ((uc_ (spr s ar fr b W)).map qf_),.l ((qg_ (D++[b])).map z3_),.l ((vp_ (spr s ar fr b W)).map eInt)]) 0 (fun i b=>b=(List.range i).foldl (v7_ W D) 0∧0≤b∧b≤6∧(b≠0→(gt W b).to≠0)) rfl (za_ (by omega)) (by simp) ?_ ?_
  ·intro i b hi ⟨hbe,hb0,hb6,hbt⟩
   refine ⟨⟨by rw [List.range_succ,List.foldl_append,← hbe];rfl,?_⟩,fun w=>?_⟩
   ·unfold v7_
    split
    ·rename_i hx;exact ⟨by omega,by omega,fun _=>hx.1⟩
    ·exact ⟨hb0,hb6,hbt⟩
   ·have hi':(i:Int)+1≤6:=by omega
    have hc1:=abu_ W (v:=(i:Int)+1) (by omega) hi'
    have hd1:=aly_ D (v:=(i:Int)+1) (by omega) hi'
    have hco:=hW.cost ((i:Int)+1) (by omega) (by omega)
    unfold v7_
    cases hcd:D.contains ((i:Int)+1) with
    | true=>simp (disch:=omega) only [↓pq,↓pj,ps,pz,↓reduceIte,Q0_,Q1_,Q2_,Q3_,Q4_,Q5_,Q6_,Q7_,Q8_,zz_,zB_,zy_,zw_,zA_,hi',hd1,hcd];simp
    | false =>
     by_cases q1:(gt W ((i:Int)+1)).to=0
     ·simp (disch:=omega) only [↓pq,↓pj,ps,pz,↓reduceIte,Q0_,Q1_,Q2_,Q3_,Q4_,Q5_,Q6_,Q7_,Q8_,zz_,zB_,zy_,zw_,zA_,hi',hd1,hcd,hc1,q1,bF_]
      simp
     ·have hge:(gt W ((i:Int)+1)).cost ≥ 0:=hco.1
      by_cases q2:b=0
      ·simp (disch:=omega) only [↓pq,↓pj,ps,pz,↓reduceIte,Q0_,Q1_,Q2_,Q3_,Q4_,Q5_,Q6_,Q7_,Q8_,zz_,zB_,zy_,zw_,zA_,hi',hd1,hcd,hc1,q1,q2,hge,bF_]
       simp
      ·have hcb:=abu_ W (v:=b) (by omega) hb6
       have hbt':=hbt q2
       by_cases q3:(gt W ((i:Int)+1)).cost < (gt W b).cost
       ·simp (disch:=omega) only [↓pq,↓pj,ps,pz,↓reduceIte,Q0_,Q1_,Q2_,Q3_,Q4_,Q5_,Q6_,Q7_,Q8_,zz_,zB_,zy_,zw_,zA_,hi',hd1,hcd,hc1,hcb,hbt',q1,q2,q3,hge,bF_]
        simp
       ·simp (disch:=omega) only [↓pq,↓pj,ps,pz,↓reduceIte,Q0_,Q1_,Q2_,Q3_,Q4_,Q5_,Q6_,Q7_,Q8_,zz_,zB_,zy_,zw_,zA_,hi',hd1,hcd,hc1,hcb,hbt',q1,q2,q3,hge,bF_]
        simp
  ·intro b w ⟨hbe,hb0,hb6,hbt⟩
   by_cases hb:b=0
   ·simp (disch:=omega) only [↓pq,↓pj,ps,pz,↓reduceIte,Q0_,Q1_,Q2_,Q3_,Q4_,Q5_,Q6_,Q7_,Q8_,zz_,zB_,zy_,zw_,zA_,hb]
   have hbb:b=best W D:=hbe
   have hb1:1≤b∧b≤6:=by omega
   obtain ⟨g1,g2,g3,g4⟩:=(k9_ W D).resolve_left fun e=>hb (hbb.trans e.1)
   rw [← hbb] at g1 g2 g3 g4
   have hcb:=hW.cost b (by omega) (by omega)
   have l4:=aiw_ (D++[b])
   have hfrD:fr∈D++[b]:=by
    rcases hI.first with ⟨e,hf⟩ | hf
    ·rw [hf b g1.1 g1.2 g2];simp
    ·simp [hf]
   simp (disch:=omega) only [↓pq,↓pj,ps,pz,↓reduceIte,Q0_,Q1_,Q2_,Q3_,Q4_,Q5_,Q6_,Q7_,Q8_,zz_,zB_,zy_,zw_,zA_,hb,al6_,aHk_ D hb1.1 hb1.2]
   refine yV_ 6 (fun i W'=>[ii (i+1),.l ((uc_ W').map qf_),.l ((vp_ W').map eInt)]) (y5_ s ar fr b) (fun W'=>q [ii (D.length+1+1),.l ((uc_ W').map qf_),.l ((qg_ (D++[b])).map z3_),.l ((vp_ W').map eInt)]) W (fun i W'=>WOk1 W' (1000 * D.length+1000)∧gt W' b=gt W b∧∀ v∈D,gt W' v=gt W v) rfl (za_ (by omega)) ⟨hW.mono (by omega),rfl,fun _ _=>rfl⟩ ?_ ?_
   ·intro i W' hi ⟨hW',hgb,hgD⟩
    have hi6:i < 6:=by omega
    have hst:=ado_ hs ar fr hb1 (by omega) hW' (by rw [hgb];exact hcb.2) hi6
    have hi':(i:Int)+1≤6:=by omega
    have hl':=hW'.len
    have hlk:=ux_ hs ar b ((i:Int)+1)
    have hcb':=hW'.cost b (by omega) (by omega)
    have hco':=hW'.cost ((i:Int)+1) (by omega) (by omega)
    have hhb:=hW'.hops b (by omega) (by omega)
    have hho:=hW'.hops ((i:Int)+1) (by omega) (by omega)
    have hhl:=xC_ hhb
    have hhl2:=xC_ hho
    have l5:=aii_ W'
    have l6:=aix_ W'
    have hM:=aJw_ hs ar (u:=b) (v:=(i:Int)+1) hb1 (by omega)
    have hc1:=abu_ W' (v:=(i:Int)+1) (by omega) hi'
    have hc2:=abu_ W' (v:=b) hb1.1 hb1.2
    have hbt':(gt W' b).to≠0:=by rw [hgb];exact g2
    have hd1:=aly_ (D++[b]) (v:=(i:Int)+1) (by omega) hi'
    have hp1:=alu_ W' (v:=(i:Int)+1) (by omega) hi'
    have hp2:=alu_ W' (v:=b) (by omega) hb1.2
    have htn:((i:Int)+1).toNat=i+1:=by omega
    have hto:=hW'.to ((i:Int)+1) (by omega) (by omega)
    have stay:((i:Int)+1∈D++[b])→zk_ s ar b ((i:Int)+1)≠0→y5_ s ar fr b W' i=W':=by
     intro hm hne
     unfold y5_
     by_cases e:zk_ s ar b ((i:Int)+1)=0∨(i:Int)+1=fr
     ·rw [if_pos e]
     ·rw [if_neg e]
      rcases List.mem_append.1 hm with hm | hm
      ·have h1:=hgD _ hm
       have h2:=(hI.mem _ hm).2
       have h3:=hI.mono _ hm b g1.1 g1.2 g3 g2
       rw [h1,hgb]
       rw [if_neg (by rintro (h4 | h4);exact h2 h4;omega),if_neg (by omega)]
      ·rw [List.mem_singleton] at hm
       rw [hm,aap_ hs] at hne
       exact absurd rfl hne
    refine ⟨⟨hst.1,hst.2.trans hgb,fun v hv=>?_⟩,fun w=>?_⟩
    ·rw [← hgD v hv]
     by_cases e:v=(i:Int)+1
     ·by_cases e2:zk_ s ar b ((i:Int)+1)=0
      ·unfold y5_;rw [if_pos (.inl e2)]
      ·rw [stay (List.mem_append.2 (.inl (e ▸ hv))) e2]
     ·have hv0:=(hI.mem v hv).1
      unfold y5_
      split
      ·rfl
      ·split
       ·rw [wK_ hl' hi6 (by omega),if_neg e]
       ·split
        ·rw [wK_ hl' hi6 (by omega),if_neg e]
        ·rfl
    by_cases q1:zk_ s ar b ((i:Int)+1)=0
    ·simp (disch:=omega) only [↓pq,↓pj,ps,pz,↓reduceIte,Q0_,Q1_,Q2_,Q3_,Q4_,Q5_,Q6_,Q7_,Q8_,zz_,zB_,zy_,zw_,zA_,hi',hM,q1]
     unfold y5_
     rw [if_pos (.inl q1)]
    cases q2:(D++[b]).contains ((i:Int)+1) with
    | true =>
     rw [stay (List.contains_iff_mem.1 q2) q1]
     simp (disch:=omega) only [↓pq,↓pj,ps,pz,↓reduceIte,Q0_,Q1_,Q2_,Q3_,Q4_,Q5_,Q6_,Q7_,Q8_,zz_,zB_,zy_,zw_,zA_,hi',hM,q1,hd1,q2]
    | false =>
     have q2':¬ ((i:Int)+1=fr):=fun e=>by
      have:=List.contains_iff_mem.2 hfrD
      rw [← e,q2] at this;cases this
     by_cases q3:b=fr
     ·skip
      have hsp:y5_ s ar fr b W' i=(if (gt W' ((i:Int)+1)).to=0∨(gt W' b).cost+zk_ s ar b ((i:Int)+1) < (gt W' ((i:Int)+1)).cost then W'.set (i+1) ⟨(i:Int)+1,(gt W' b).cost+zk_ s ar b ((i:Int)+1),[(i:Int)+1]⟩
       else if (gt W' b).cost+zk_ s ar b ((i:Int)+1)=(gt W' ((i:Int)+1)).cost then W'.set (i+1) (tog (gt W' ((i:Int)+1)) ⟨(i:Int)+1,(gt W' b).cost+zk_ s ar b ((i:Int)+1),[(i:Int)+1]⟩) else W'):=by
       unfold y5_
       rw [if_neg (by rintro (h1 | h1);exact q1 h1;exact q2' h1),if_pos q3]
      rw [hsp]
      by_cases q4:(gt W' ((i:Int)+1)).to=0
      ·rw [if_pos (.inl q4),jU_ hl' hi6,aaf_ hl' hi6 (by show (i:Int)+1≠0;omega)]
       simp (disch:=omega) only [↓pq,↓pj,ps,pz,↓reduceIte,Q0_,Q1_,Q2_,Q3_,Q4_,Q5_,Q6_,Q7_,Q8_,zz_,zB_,zy_,zw_,zA_,hi',hM,q1,hd1,q2,hc1,hc2,hp1,hp2,hbt',eq_true q3,hA0 _ (qw_ (n:=(i:Int)+1) (by omega) (by omega)),uf_,qt_,htn,vV_,bF_,q4]
      have hnn:¬ ((gt W' ((i:Int)+1)).cost < 0):=by omega
      by_cases q5:(gt W' b).cost+zk_ s ar b ((i:Int)+1) < (gt W' ((i:Int)+1)).cost
      ·rw [if_pos (.inr q5),jU_ hl' hi6,aaf_ hl' hi6 (by show (i:Int)+1≠0;omega)]
       simp (disch:=omega) only [↓pq,↓pj,ps,pz,↓reduceIte,Q0_,Q1_,Q2_,Q3_,Q4_,Q5_,Q6_,Q7_,Q8_,zz_,zB_,zy_,zw_,zA_,hi',hM,q1,hd1,q2,hc1,hc2,hp1,hp2,hbt',eq_true q3,hA0 _ (qw_ (n:=(i:Int)+1) (by omega) (by omega)),uf_,qt_,htn,vV_,bF_,q4,hnn,q5]
      rw [if_neg (by rintro (h1 | h1);exact q4 h1;exact q5 h1)]
      by_cases q6:(gt W' b).cost+zk_ s ar b ((i:Int)+1)=(gt W' ((i:Int)+1)).cost
      ·have htog:tog (gt W' ((i:Int)+1)) ⟨(i:Int)+1,(gt W' b).cost+zk_ s ar b ((i:Int)+1),[(i:Int)+1]⟩=⟨(gt W' ((i:Int)+1)).to,(gt W' ((i:Int)+1)).cost,uni (gt W' ((i:Int)+1)).hops ([(i:Int)+1])⟩:=by
        unfold tog
        rw [if_neg (by show ¬ ((gt W' b).cost+_ > _);omega),if_neg (by show ¬ (_ > (gt W' b).cost+_);omega)]
       rw [if_pos q6,htog,jU_ hl' hi6,ao2_ (w:=⟨(gt W' ((i:Int)+1)).to,(gt W' ((i:Int)+1)).cost,uni (gt W' ((i:Int)+1)).hops [(i:Int)+1]⟩) hl' hi6 q4 q4 rfl]
       have hu:=aaw_ (gt W' ((i:Int)+1)).hops ([(i:Int)+1]) (by omega) (by simp)
       have q5':¬ ((gt W' ((i:Int)+1)).cost < (gt W' ((i:Int)+1)).cost):=by omega
       simp (disch:=omega) only [↓pq,↓pj,ps,pz,↓reduceIte,Q0_,Q1_,Q2_,Q3_,Q4_,Q5_,Q6_,Q7_,Q8_,zz_,zB_,zy_,zw_,zA_,hi',hM,q1,hd1,q2,hc1,hc2,hp1,hp2,hbt',eq_true q3,hA0 _ (qw_ (n:=(i:Int)+1) (by omega) (by omega)),uf_,qt_,htn,vV_,bF_,q4,hnn,q5,q5',q6,hu]
      ·rw [if_neg q6]
       simp (disch:=omega) only [↓pq,↓pj,ps,pz,↓reduceIte,Q0_,Q1_,Q2_,Q3_,Q4_,Q5_,Q6_,Q7_,Q8_,zz_,zB_,zy_,zw_,zA_,hi',hM,q1,hd1,q2,hc1,hc2,hp1,hp2,hbt',eq_true q3,hA0 _ (qw_ (n:=(i:Int)+1) (by omega) (by omega)),uf_,qt_,htn,vV_,bF_,q4,hnn,q5,q6]
     ·skip
      have hsp:y5_ s ar fr b W' i=(if (gt W' ((i:Int)+1)).to=0∨(gt W' b).cost+zk_ s ar b ((i:Int)+1) < (gt W' ((i:Int)+1)).cost then W'.set (i+1) ⟨(i:Int)+1,(gt W' b).cost+zk_ s ar b ((i:Int)+1),(gt W' b).hops⟩
       else if (gt W' b).cost+zk_ s ar b ((i:Int)+1)=(gt W' ((i:Int)+1)).cost then W'.set (i+1) (tog (gt W' ((i:Int)+1)) ⟨(i:Int)+1,(gt W' b).cost+zk_ s ar b ((i:Int)+1),(gt W' b).hops⟩) else W'):=by
       unfold y5_
       rw [if_neg (by rintro (h1 | h1);exact q1 h1;exact q2' h1),if_neg q3]
      rw [hsp]
      by_cases q4:(gt W' ((i:Int)+1)).to=0
      ·rw [if_pos (.inl q4),jU_ hl' hi6,aaf_ hl' hi6 (by show (i:Int)+1≠0;omega)]
       simp (disch:=omega) only [↓pq,↓pj,ps,pz,↓reduceIte,Q0_,Q1_,Q2_,Q3_,Q4_,Q5_,Q6_,Q7_,Q8_,zz_,zB_,zy_,zw_,zA_,hi',hM,q1,hd1,q2,hc1,hc2,hp1,hp2,hbt',eq_false q3,hA0 _ hhb,uf_,qt_,htn,vV_,bF_,q4]
      have hnn:¬ ((gt W' ((i:Int)+1)).cost < 0):=by omega
      by_cases q5:(gt W' b).cost+zk_ s ar b ((i:Int)+1) < (gt W' ((i:Int)+1)).cost
      ·rw [if_pos (.inr q5),jU_ hl' hi6,aaf_ hl' hi6 (by show (i:Int)+1≠0;omega)]
       simp (disch:=omega) only [↓pq,↓pj,ps,pz,↓reduceIte,Q0_,Q1_,Q2_,Q3_,Q4_,Q5_,Q6_,Q7_,Q8_,zz_,zB_,zy_,zw_,zA_,hi',hM,q1,hd1,q2,hc1,hc2,hp1,hp2,hbt',eq_false q3,hA0 _ hhb,uf_,qt_,htn,vV_,bF_,q4,hnn,q5]
      rw [if_neg (by rintro (h1 | h1);exact q4 h1;exact q5 h1)]
      by_cases q6:(gt W' b).cost+zk_ s ar b ((i:Int)+1)=(gt W' ((i:Int)+1)).cost
      ·have htog:tog (gt W' ((i:Int)+1)) ⟨(i:Int)+1,(gt W' b).cost+zk_ s ar b ((i:Int)+1),(gt W' b).hops⟩=⟨(gt W' ((i:Int)+1)).to,(gt W' ((i:Int)+1)).cost,uni (gt W' ((i:Int)+1)).hops ((gt W' b).hops)⟩:=by
        unfold tog
        rw [if_neg (by show ¬ ((gt W' b).cost+_ > _);omega),if_neg (by show ¬ (_ > (gt W' b).cost+_);omega)]
       rw [if_pos q6,htog,jU_ hl' hi6,ao2_ (w:=⟨(gt W' ((i:Int)+1)).to,(gt W' ((i:Int)+1)).cost,uni (gt W' ((i:Int)+1)).hops (gt W' b).hops⟩) hl' hi6 q4 q4 rfl]
       have hu:=aaw_ (gt W' ((i:Int)+1)).hops ((gt W' b).hops) (by omega) (by omega)
       have q5':¬ ((gt W' ((i:Int)+1)).cost < (gt W' ((i:Int)+1)).cost):=by omega
       simp (disch:=omega) only [↓pq,↓pj,ps,pz,↓reduceIte,Q0_,Q1_,Q2_,Q3_,Q4_,Q5_,Q6_,Q7_,Q8_,zz_,zB_,zy_,zw_,zA_,hi',hM,q1,hd1,q2,hc1,hc2,hp1,hp2,hbt',eq_false q3,hA0 _ hhb,uf_,qt_,htn,vV_,bF_,q4,hnn,q5,q5',q6,hu]
      ·rw [if_neg q6]
       simp (disch:=omega) only [↓pq,↓pj,ps,pz,↓reduceIte,Q0_,Q1_,Q2_,Q3_,Q4_,Q5_,Q6_,Q7_,Q8_,zz_,zB_,zy_,zw_,zA_,hi',hM,q1,hd1,q2,hc1,hc2,hp1,hp2,hbt',eq_false q3,hA0 _ hhb,uf_,qt_,htn,vV_,bF_,q4,hnn,q5,q6]
   ·intro W' w _
    simp (disch:=omega) only [↓pq,↓pj,ps,pz,↓reduceIte,Q0_,Q1_,Q2_,Q3_,Q4_,Q5_,Q6_,Q7_,Q8_,zz_,zB_,zy_,zw_,zA_,]
 refine yV_ 6 (fun i c=>[ii (i+1),.l (c.map eInt)]) (fun c i=>c.set (i+1) (-1)) (fun c=>if c=[0,-1,-1,-1,-1,-1,-1] then some [T.l ((qV_ (dij s ar fr 6 (W0 fr) [])).map eWay)] else none) (List.replicate 7 0) (fun i c=>c=(List.range i).foldl (fun c i=>c.set (i+1) (-1)) (List.replicate 7 0)) rfl (za_ (by omega)) rfl ?_ ?_ |>.trans (by rfl)
 ·intro i c hi hc
  have hl:c.length=7:=by rw [hc,ai5_ (fun M x=>by simp)];simp
  have hi':(i:Int)+1≤6:=by omega
  have htn:((i:Int)+1).toNat=i+1:=by omega
  refine ⟨by rw [List.range_succ,List.foldl_append,← hc];rfl,fun q=>?_⟩
  simp (disch:=omega) only [↓pq,↓pj,ps,pz,↓reduceIte,Q0_,Q1_,Q2_,Q3_,Q4_,Q5_,Q6_,Q7_,Q8_,zz_,zB_,zy_,zw_,zA_,hi',uf_,htn]
 ·intro c q hc
  have hc:c=[0,-1,-1,-1,-1,-1,-1]:=hc
  rw [hc,if_pos rfl]
  have hlt:fr < (([0,-1,-1,-1,-1,-1,-1]:List Int).length:Int):=by simp;omega
  have hput:Prim.ev (.put true 1 0 1) [.l (([0,-1,-1,-1,-1,-1,-1]:List Int).map eInt),ii fr,ii 0]=some (.l ((vp_ (W0 fr)).map eInt)):=by
   rw [uf_ (by omega) hlt]
   congr 3
   unfold vp_
   rw [show ([0,-1,-1,-1,-1,-1,-1]:List Int)=tab (fun i=>if i=0 then 0 else -1) from rfl,aff_]
   refine jS_ fun i hi=>?_
   rw [adj_ h6' (by omega) (by omega)]
   by_cases e:i=fr.toNat
   ·have e1:fr=(i:Int):=by omega
    have e2:¬ (i=0):=by omega
    rw [if_pos e,if_neg e2,if_pos e1]
    show (0:Int)=if fr=0 then -1 else 0
    rw [if_neg (by omega)]
   ·have e1:¬ (fr=(i:Int)):=by omega
    rw [if_neg e,if_neg e1]
    by_cases e0:i=0
    ·rw [if_pos e0,if_pos e0]
    ·rw [if_neg e0,if_neg e0];rfl
  have hh:(List.replicate 7 ([]:List Int))=uc_ (W0 fr):=by
   show tab (fun _=>[])=_
   unfold uc_
   refine jS_ fun i hi=>?_
   rw [adj_ h6' (by omega) (by omega)]
   split <;> rfl
  have hdn:List.replicate 7 false=qg_ []:=rfl
  simp (disch:=omega) only [↓pq,↓pj,ps,pz,↓reduceIte,Q0_,Q1_,Q2_,Q3_,Q4_,Q5_,Q6_,Q7_,Q8_,zz_,zB_,zy_,zw_,zA_,hput,hh,hdn]
  refine aFy_ (s:=s) hs (ar:=ar) (fr:=fr) (fun r W D=>[ii r,.l ((uc_ W).map qf_),.l ((qg_ D).map z3_),.l ((vp_ W).map eInt)]) (out:=fun W=>some [T.l ((qV_ W).map eWay)]) ?_ ?_ ?_ 6 (W0 fr) [] rounds (DInv.start h6') rfl (by unfold rounds;omega)
  ·intro W D q hI hD hb
   rw [sel W D q hI hD,if_pos hb]
  ·intro W D q hI hD hb
   rw [sel W D q hI hD,if_neg hb]
  ·intro W D q hI hb
   have l1:=aiw_ D
   have l2:=aii_ W
   have l3:=aix_ W
   simp (disch:=omega) only [↓pq,↓pj,ps,pz,↓reduceIte,Q0_,Q1_,Q2_,Q3_,Q4_,Q5_,Q6_,Q7_,Q8_,zz_,zB_,zy_,zw_,zA_,]
   refine (yV_ 6 (fun i c=>[.l (c.map eWay),ii (i+1)]) (fun c i=>if D.contains ((i:Int)+1)=true then c++[⟨(i:Int)+1,(gt W ((i:Int)+1)).cost,(gt W ((i:Int)+1)).hops⟩] else c) (fun c=>some [T.l (c.map eWay)]) [] (fun i c=>c.length≤i) rfl (za_ (by omega)) (by simp) ?_ ?_).trans (by rw [vR_ (fun i:Nat=>D.contains ((i:Int)+1)) (fun i:Nat=>(⟨(i:Int)+1,(gt W ((i:Int)+1)).cost,(gt W ((i:Int)+1)).hops⟩:Way)),List.nil_append,← aIg_ hI hb])
   ·intro i c hi hc
    refine ⟨by split <;> (try simp) <;> omega,fun w=>?_⟩
    have hi':(i:Int)+1≤6:=by omega
    have hd1:=aly_ D (v:=(i:Int)+1) (by omega) hi'
    have hc1:=abu_ W (v:=(i:Int)+1) (by omega) hi'
    have hp1:=alu_ W (v:=(i:Int)+1) (by omega) hi'
    have hhl:=xC_ (hI.ok.hops ((i:Int)+1) (by omega) (by omega))
    cases hcd:D.contains ((i:Int)+1) with
    | false=>simp (disch:=omega) only [↓pq,↓pj,ps,pz,↓reduceIte,Q0_,Q1_,Q2_,Q3_,Q4_,Q5_,Q6_,Q7_,Q8_,zz_,zB_,zy_,zw_,zA_,hi',hd1,hcd,bF_]
    | true =>
     have ht:=(hI.mem _ (List.contains_iff_mem.1 hcd)).2
     simp (disch:=omega) only [↓pq,↓pj,ps,pz,↓reduceIte,Q0_,Q1_,Q2_,Q3_,Q4_,Q5_,Q6_,Q7_,Q8_,zz_,zB_,zy_,zw_,zA_,hi',hd1,hcd,hc1,hp1,ht,vV_]
   ·intro c w hc
    simp (disch:=omega) only [↓pq,↓pj,ps,pz,↓reduceIte,Q0_,Q1_,Q2_,Q3_,Q4_,Q5_,Q6_,Q7_,Q8_,zz_,zB_,zy_,zw_,zA_,]
end Go.Proofs.YtjimmglpkndemaaGreatC

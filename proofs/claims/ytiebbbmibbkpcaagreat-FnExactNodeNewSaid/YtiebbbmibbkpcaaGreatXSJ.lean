/- The reference finds the shortest ways, too. Conditions: none. -/
import Derived.Test.YtiebbbmibbkpcaaGreatXSI
namespace Go.Proofs.YtiebbbmibbkpcaaGreatC
open Int (reduceLE reduceLT reduceEq reduceGT reduceGE reduceAdd reduceSub reduceMul reduceNeg)
set_option linter.unusedVariables false
set_option linter.unusedSimpArgs false
theorem afi_:six=(List.range 6).map fun i:Nat=>(i:Int)+1:=rfl
theorem wi_ (a b:List Int) (ha:a.length≤1048576) (hb:b.length≤1048576):yn_ [.l (a.map eInt),.l (b.map eInt)]=some [.l ((uni a b).map eInt)]:=by
 rw [aD4_];simp (disch:=omega) only [↓pq,ps,pz,↓reduceIte,reduceLE,reduceLT,reduceEq,reduceGT,reduceGE,reduceAdd,reduceSub,reduceMul,reduceNeg,jw_,ahi_]
 refine (yy_ 6 (fun i c=>[.l (c.map eInt),ii (i+1)]) (fun c i=>if (a.contains ((i:Int)+1) || b.contains ((i:Int)+1))=true then c++[(i:Int)+1] else c) (fun c=>some [T.l (c.map eInt)]) [] (fun i c=>c.length≤i) rfl (zb_ (by omega)) (by simp) ?_ ?_).trans ?_
 ·intro i c hi hc
  refine ⟨by split <;> (try simp) <;> omega,fun q=>?_⟩
  have hi':(i:Int)+1≤6:=by omega
  cases h1:a.contains ((i:Int)+1) <;> cases h2:b.contains ((i:Int)+1) <;> simp (disch:=omega) only [↓pq,ps,pz,↓reduceIte,reduceLE,reduceLT,reduceEq,reduceGT,reduceGE,reduceAdd,reduceSub,reduceMul,reduceNeg,jw_,hi',asa_ _ _ ha,asa_ _ _ hb,h1,h2,Bool.or_true,Bool.or_false,Bool.false_eq_true]
 ·intro c q hc
  simp (disch:=omega) only [↓pq,ps,pz,↓reduceIte,reduceLE,reduceLT,reduceEq,reduceGT,reduceGE,reduceAdd,reduceSub,reduceMul,reduceNeg,jw_,]
 ·rw [w7_ (fun i:Nat=>a.contains ((i:Int)+1) || b.contains ((i:Int)+1)) (fun i:Nat=>(i:Int)+1),List.nil_append]
  unfold uni
  rw [afi_,List.filter_map]
  rfl
theorem aFf_ (a b:Int) (t:T) (a' b':Int) (t':T):q8_ [ii a,ii b,t,ii a',ii b',t']=some [bb (decide (b < b'))]:=by
 rw [aGh_];simp (disch:=omega) only [↓pq,ps,pz,↓reduceIte,reduceLE,reduceLT,reduceEq,reduceGT,reduceGE,reduceAdd,reduceSub,reduceMul,reduceNeg,aif_]
theorem aku_ (a b:Int) (l:List Int) (a' b':Int) (l':List Int) (h:l.length≤1048576) (h':l'.length≤1048576):wB_ [ii a,ii b,.l (l.map eInt),ii a',ii b',.l (l'.map eInt)]=some (eWay (tog ⟨a,b,l⟩ ⟨a',b',l'⟩)):=by
 rw [axy_];simp (disch:=omega) only [↓pq,ps,pz,↓reduceIte,reduceLE,reduceLT,reduceEq,reduceGT,reduceGE,reduceAdd,reduceSub,reduceMul,reduceNeg,aca_,aFf_,ae2_ _ _ _ h,ae2_ _ _ _ h',wi_ _ _ h h']
 unfold tog
 by_cases h1:b < b'
 ·have h2:b' > b:=h1
  simp only [h1,h2,if_true];rfl
 ·have h2:¬ (b' > b):=h1
  by_cases h3:b' < b
  ·have h4:b > b':=h3
   simp only [h1,h2,h3,h4,if_true,if_false];rfl
  ·have h4:¬ (b > b'):=h3
   simp only [h1,h2,h3,h4,if_false];rfl
def w8_ (W:List Way):List Int:=tab fun i=>if i=0 then 0 else if (gt W (i:Int)).to=0 then -1 else (gt W (i:Int)).cost
def v6_ (W:List Way):List (List Int):=tab fun i=>(gt W (i:Int)).hops
def qe_ (D:List Int):List Bool:=tab fun i=>D.contains (i:Int)
theorem ab1_ (W:List Way) {v:Int} (h:1≤v) (h':v≤6):gt (w8_ W) v=if (gt W v).to=0 then -1 else (gt W v).cost:=by
 unfold w8_
 rw [avp_ _ (by omega) (by omega),if_neg (by omega),show ((v.toNat:Nat):Int)=v by omega]
theorem ank_ (W:List Way) {v:Int} (h:0≤v) (h':v≤6):gt (v6_ W) v=(gt W v).hops:=by
 unfold v6_
 rw [avp_ _ h (by omega),show ((v.toNat:Nat):Int)=v by omega]
theorem an7_ (D:List Int) {v:Int} (h:0≤v) (h':v≤6):gt (qe_ D) v=D.contains v:=by
 unfold qe_
 rw [avp_ _ h (by omega),show ((v.toNat:Nat):Int)=v by omega]
theorem aj6_ (W:List Way):(w8_ W).length=7:=aff_ _
theorem ako_ (W:List Way):(v6_ W).length=7:=aff_ _
theorem akr_ (D:List Int):(qe_ D).length=7:=aff_ _
theorem aai_ {W:List Way} (hl:W.length=7) {i:Nat} (hi:i < 6) {w:Way} (ht:w.to≠0):w8_ (W.set (i+1) w)=(w8_ W).set (i+1) w.cost:=by
 unfold w8_
 rw [agj_]
 refine jM_ fun j hj=>?_
 rw [vR_ hl hi (by omega)]
 by_cases h:j=i+1
 ·subst h
  simp [ht]
 ·rw [if_neg (show ¬ ((j:Int)=(i:Int)+1) by omega),if_neg h]
theorem jL_ {W:List Way} (hl:W.length=7) {i:Nat} (hi:i < 6) (w:Way):v6_ (W.set (i+1) w)=(v6_ W).set (i+1) w.hops:=by
 unfold v6_
 rw [agj_]
 refine jM_ fun j hj=>?_
 rw [vR_ hl hi (by omega)]
 by_cases h:j=i+1
 ·subst h
  rw [if_pos (by simp),if_pos rfl]
 ·rw [if_neg (show ¬ ((j:Int)=(i:Int)+1) by omega),if_neg h]
theorem aol_ {W:List Way} (hl:W.length=7) {i:Nat} (hi:i < 6) {w:Way} (ht:w.to≠0) (h0:(gt W ((i:Int)+1)).to≠0) (hc:w.cost=(gt W ((i:Int)+1)).cost):w8_ (W.set (i+1) w)=w8_ W:=by
 rw [aai_ hl hi ht]
 unfold w8_
 rw [agj_]
 refine jM_ fun j hj=>?_
 by_cases h:j=i+1
 ·subst h
  rw [if_pos rfl,if_neg (by omega),if_neg (by simpa using h0),hc]
  simp
 ·rw [if_neg h]
theorem aI2_ (D:List Int) {b:Int} (h:1≤b) (h':b≤6):(qe_ D).set b.toNat true=qe_ (D++[b]):=by
 unfold qe_
 rw [agj_]
 refine jM_ fun j hj=>?_
 by_cases e:j=b.toNat
 ·rw [if_pos e]
  have:(j:Int)=b:=by omega
  rw [this]
  simp
 ·rw [if_neg e]
  have:¬ ((j:Int)=b):=by omega
  rw [Bool.eq_iff_iff,List.contains_iff_mem,List.contains_iff_mem]
  simp [this]
theorem aNa_ {W:List Way} (h:W.length=7):W=tab fun i=>gt W (i:Int):=by
 refine List.ext_getElem (by rw [aff_,h]) fun i h1 h2=>?_
 simp only [tab,List.getElem_map,List.getElem_range]
 rw [zm_ h1]
theorem aKd_ {s:List Rcd} (hs:zk_ s=true) {ar fr:Int} {F:Sem1→Sem1} (st:Int→List Way→List Int→List T) {out:List Way→Option (List T)}
  (hA:∀ W D q,DInv fr W D→D.length < 6→best W D=0→F q (st (D.length+1) W D)=q (st 7 W D))
  (hB:∀ W D q,DInv fr W D→D.length < 6→best W D≠0→F q (st (D.length+1) W D)=q (st (D.length+1+1) (spr s ar fr (best W D) W) (D++[best W D])))
  (fin:∀ W D q,DInv fr W D→best W D=0→F q (st 7 W D)=out W) :
  ∀ k W D R,DInv fr W D→D.length+k=6→k+1 < R→iter F R (st (D.length+1) W D)=out (dij s ar fr k W D):=by
 intro k
 induction k with
 | zero =>
  intro W D R h hk hR
  cases R with
  | zero=>omega
  | succ R =>
   have hb:=h.full (by omega)
   unfold iter
   rw [show ((D.length:Int)+1)=7 by omega]
   exact fin W D _ h hb
 | succ k ih =>
  intro W D R h hk hR
  cases R with
  | zero=>omega
  | succ R =>
   unfold iter
   by_cases hb:best W D=0
   ·rw [hA W D _ h (by omega) hb]
    cases R with
    | zero=>omega
    | succ R =>
     unfold iter
     rw [fin W D _ h hb]
     unfold dij
     rw [if_pos hb]
   ·rw [hB W D _ h (by omega) hb]
    have:=ih _ _ R (h.step hs ar hb) (by simp;omega) (by omega)
    rw [show (((D++[best W D]).length:Int)+1)=D.length+1+1 by simp] at this
    rw [this]
    conv=>rhs;unfold dij
    rw [if_neg hb]
theorem aKi_ {W:List Way} {D:List Int} {fr:Int} (h:DInv fr W D) (hb:best W D=0):qT_ W=((List.range 6).filter fun i:Nat=>D.contains ((i:Int)+1)).map fun i:Nat=>(⟨(i:Int)+1,(gt W ((i:Int)+1)).cost,(gt W ((i:Int)+1)).hops⟩:Way):=by
 have hD:=((adz_ W D).resolve_right fun e=>by omega).2
 have e:W=gt W 0 :: (List.range 6).map fun i:Nat=>gt W ((i:Int)+1):=(aNa_ h.ok.len).trans rfl
 have h0:(gt W 0).to=0:=(h.ok.to 0 (by omega) (by omega)).elim id id
 have hf:qT_ W=(((List.range 6).map fun i:Nat=>gt W ((i:Int)+1)).filter fun w=>!(w.to == 0)):=by
  unfold qT_
  conv=>lhs;rw [e]
  rw [List.filter_cons,if_neg (by simp [h0])]
 rw [hf,List.filter_map]
 have hp:∀ i:Nat,i∈List.range 6→((fun w:Way=>!(w.to == 0)) ∘ fun i:Nat=>gt W ((i:Int)+1)) i=D.contains ((i:Int)+1):=by
  intro i hi
  have hi:i < 6:=by simpa using hi
  rw [Bool.eq_iff_iff,List.contains_iff_mem]
  simp only [Function.comp,Bool.not_eq_true',beq_eq_false_iff_ne]
  exact ⟨fun h1=>hD _ (by omega) (by omega) h1,fun h1=>(h.mem _ h1).2⟩
 rw [List.filter_congr hp]
 refine List.map_congr_left fun i hi=>?_
 obtain ⟨h1,h2⟩:=List.mem_filter.1 hi
 have h1:i < 6:=by simpa using h1
 have h3:=(h.mem _ (List.contains_iff_mem.1 h2)).2
 have h4:=(h.ok.to ((i:Int)+1) (by omega) (by omega)).resolve_left h3
 have hw:∀ (w:Way) (n:Int),w.to=n→w=⟨n,w.cost,w.hops⟩:=by intro w n hn;subst hn;rfl
 exact hw _ _ h4
set_option maxHeartbeats 1600000 in
theorem aig_ (s:List Rcd) (ar fr:Int) (h:s.length≤1048576) (hn:NearL s):wf_ [.l (s.map eRcd),ii ar,ii fr]=some [.l ((waysIn s ar fr).map eWay)]:=by
 obtain ⟨c0,c1,c2,c3,c4,c6,c7,e⟩:=ac1_ s ar fr h
 rw [aGo_];simp (disch:=omega) only [↓pq,ps,pz,↓reduceIte,reduceLE,reduceLT,reduceEq,reduceGT,reduceGE,reduceAdd,reduceSub,reduceMul,reduceNeg,zB_,zA_,zy_,zw_,zz_,ahh_,e,jl_ _ h hn,vT_]
 unfold waysIn
 cases hs:zk_ s with
 | false=>simp
 | true =>
 cases h6:inB fr 1 6 with
 | false=>simp
 | true =>
 have h6':=inB_iff.1 h6
 by_cases hq:0≤z9_ s ar fr
 case neg=>simp [hq]
 rw [if_pos (show (true=true∧true=true∧0≤z9_ s ar fr) from ⟨rfl,rfl,hq⟩)]
 have m1:=alc_ (enc:=eInt) (n:=7) (x:=0) (vs:=[ii 0]) (by decide) rfl
 have m2:=alc_ (enc:=u8_) (n:=7) (x:=[]) (vs:=[.l []]) (by decide) rfl
 have m3:=alc_ (enc:=yx_) (n:=7) (x:=false) (vs:=[bb false]) (by decide) rfl
 simp only [not_true_eq_false,if_false,hq]
 rw [awf_ _ _ h hn hs,aOz_]
 rw [show Prim.ev .mk [ii 7,ii 7,ii 0]=some (.l ((List.replicate 7 (0:Int)).map eInt)) from m1,za_,show Prim.ev .mk [ii 7,ii 7,.l []]=some (.l ((List.replicate 7 ([]:List Int)).map u8_)) from m2,za_,
  show Prim.ev .mk [ii 7,ii 7,bb false]=some (.l ((List.replicate 7 false).map yx_)) from m3,za_]
 have hA0:∀ w:List Int,zt_ w→yn_ [.l [],.l (w.map eInt)]=some [.l (w.map eInt)]:=fun w hw=>by
  have:=wi_ [] w (by simp) (by have:=zG_ hw;omega)
  rw [abn_ hw] at this
  exact this
 have hML:=aId_ s ar
 have sel:∀ W D q,DInv fr W D→D.length < 6→zw_ rounds yn_ (ii fr) (T.l []) (T.l (List.map eInt (aqc_ s ar))) q [ii (D.length+1),.l ((v6_ W).map u8_),.l ((qe_ D).map yx_),.l ((w8_ W).map eInt)] =
   if best W D=0 then q [ii 7,.l ((v6_ W).map u8_),.l ((qe_ D).map yx_),.l ((w8_ W).map eInt)]
   else q [ii (D.length+1+1),.l ((v6_ (spr s ar fr (best W D) W)).map u8_),.l ((qe_ (D++[best W D])).map yx_),.l ((w8_ (spr s ar fr (best W D) W)).map eInt)]:=by
  intro W D q hI hD
  have hle:(D.length:Int)+1≤6:=by omega
  have hW:=hI.ok
  have hWl:=hW.len
  have l1:=akr_ D
  have l2:=aj6_ W
  have l3:=ako_ W
  simp (disch:=omega) only [↓pq,ps,pz,↓reduceIte,reduceLE,reduceLT,reduceEq,reduceGT,reduceGE,reduceAdd,reduceSub,reduceMul,reduceNeg,zB_,zA_,zy_,zw_,zz_,hle]
  refine yy_ 6 (fun i b=>[ii b,ii (i+1)]) (v3_ W D) (fun b=>if b=0 then q [ii 7,.l ((v6_ W).map u8_),.l ((qe_ D).map yx_),.l ((w8_ W).map eInt)]
   else q [ii (D.length+1+1),.l ((v6_ (spr s ar fr b W)).map u8_),.l ((qe_ (D++[b])).map yx_),.l ((w8_ (spr s ar fr b W)).map eInt)]) 0 (fun i b=>b=(List.range i).foldl (v3_ W D) 0∧0≤b∧b≤6∧(b≠0→(gt W b).to≠0)) rfl (zb_ (by omega)) (by simp) ?_ ?_
  ·intro i b hi ⟨hbe,hb0,hb6,hbt⟩
   refine ⟨⟨by rw [List.range_succ,List.foldl_append,← hbe];rfl,?_⟩,fun w=>?_⟩
   ·unfold v3_
    split
    ·rename_i hx;exact ⟨by omega,by omega,fun _=>hx.1⟩
    ·exact ⟨hb0,hb6,hbt⟩
   ·have hi':(i:Int)+1≤6:=by omega
    have hc1:=ab1_ W (v:=(i:Int)+1) (by omega) hi'
    have hd1:=an7_ D (v:=(i:Int)+1) (by omega) hi'
    have hco:=hW.cost ((i:Int)+1) (by omega) (by omega)
    unfold v3_
    cases hcd:D.contains ((i:Int)+1) with
    | true=>simp (disch:=omega) only [↓pq,ps,pz,↓reduceIte,reduceLE,reduceLT,reduceEq,reduceGT,reduceGE,reduceAdd,reduceSub,reduceMul,reduceNeg,zB_,zA_,zy_,zw_,zz_,hi',hd1,hcd];simp
    | false =>
     by_cases q1:(gt W ((i:Int)+1)).to=0
     ·simp (disch:=omega) only [↓pq,ps,pz,↓reduceIte,reduceLE,reduceLT,reduceEq,reduceGT,reduceGE,reduceAdd,reduceSub,reduceMul,reduceNeg,zB_,zA_,zy_,zw_,zz_,hi',hd1,hcd,hc1,q1,Bool.false_eq_true]
      simp
     ·have hge:(gt W ((i:Int)+1)).cost ≥ 0:=hco.1
      by_cases q2:b=0
      ·simp (disch:=omega) only [↓pq,ps,pz,↓reduceIte,reduceLE,reduceLT,reduceEq,reduceGT,reduceGE,reduceAdd,reduceSub,reduceMul,reduceNeg,zB_,zA_,zy_,zw_,zz_,hi',hd1,hcd,hc1,q1,q2,hge,Bool.false_eq_true]
       simp
      ·have hcb:=ab1_ W (v:=b) (by omega) hb6
       have hbt':=hbt q2
       by_cases q3:(gt W ((i:Int)+1)).cost < (gt W b).cost
       ·simp (disch:=omega) only [↓pq,ps,pz,↓reduceIte,reduceLE,reduceLT,reduceEq,reduceGT,reduceGE,reduceAdd,reduceSub,reduceMul,reduceNeg,zB_,zA_,zy_,zw_,zz_,hi',hd1,hcd,hc1,hcb,hbt',q1,q2,q3,hge,Bool.false_eq_true]
        simp
       ·simp (disch:=omega) only [↓pq,ps,pz,↓reduceIte,reduceLE,reduceLT,reduceEq,reduceGT,reduceGE,reduceAdd,reduceSub,reduceMul,reduceNeg,zB_,zA_,zy_,zw_,zz_,hi',hd1,hcd,hc1,hcb,hbt',q1,q2,q3,hge,Bool.false_eq_true]
        simp
  ·intro b w ⟨hbe,hb0,hb6,hbt⟩
   by_cases hb:b=0
   ·simp (disch:=omega) only [↓pq,ps,pz,↓reduceIte,reduceLE,reduceLT,reduceEq,reduceGT,reduceGE,reduceAdd,reduceSub,reduceMul,reduceNeg,zB_,zA_,zy_,zw_,zz_,hb]
   have hbb:b=best W D:=hbe
   have hb1:1≤b∧b≤6:=by omega
   obtain ⟨g1,g2,g3,g4⟩:=(adz_ W D).resolve_left fun e=>hb (hbb.trans e.1)
   rw [← hbb] at g1 g2 g3 g4
   have hcb:=hW.cost b (by omega) (by omega)
   have l4:=akr_ (D++[b])
   have hfrD:fr∈D++[b]:=by
    rcases hI.first with ⟨e,hf⟩ | hf
    ·rw [hf b g1.1 g1.2 g2];simp
    ·simp [hf]
   simp (disch:=omega) only [↓pq,ps,pz,↓reduceIte,reduceLE,reduceLT,reduceEq,reduceGT,reduceGE,reduceAdd,reduceSub,reduceMul,reduceNeg,zB_,zA_,zy_,zw_,zz_,hb,aNp_,aI2_ D hb1.1 hb1.2]
   refine yy_ 6 (fun i W'=>[ii (i+1),.l ((v6_ W').map u8_),.l ((w8_ W').map eInt)]) (xB_ s ar fr b) (fun W'=>q [ii (D.length+1+1),.l ((v6_ W').map u8_),.l ((qe_ (D++[b])).map yx_),.l ((w8_ W').map eInt)]) W (fun i W'=>WOk1 W' (1000 * D.length+1000)∧gt W' b=gt W b∧∀ v∈D,gt W' v=gt W v) rfl (zb_ (by omega)) ⟨hW.mono (by omega),rfl,fun _ _=>rfl⟩ ?_ ?_
   ·intro i W' hi ⟨hW',hgb,hgD⟩
    have hi6:i < 6:=by omega
    have hst:=adv_ hs ar fr hb1 (by omega) hW' (by rw [hgb];exact hcb.2) hi6
    have hi':(i:Int)+1≤6:=by omega
    have hl':=hW'.len
    have hlk:=aal_ hs ar b ((i:Int)+1)
    have hcb':=hW'.cost b (by omega) (by omega)
    have hco':=hW'.cost ((i:Int)+1) (by omega) (by omega)
    have hhb:=hW'.hops b (by omega) (by omega)
    have hho:=hW'.hops ((i:Int)+1) (by omega) (by omega)
    have hhl:=zG_ hhb
    have hhl2:=zG_ hho
    have l5:=aj6_ W'
    have l6:=ako_ W'
    have hM:=aMf_ hs ar (u:=b) (v:=(i:Int)+1) hb1 (by omega)
    have hc1:=ab1_ W' (v:=(i:Int)+1) (by omega) hi'
    have hc2:=ab1_ W' (v:=b) hb1.1 hb1.2
    have hbt':(gt W' b).to≠0:=by rw [hgb];exact g2
    have hd1:=an7_ (D++[b]) (v:=(i:Int)+1) (by omega) hi'
    have hp1:=ank_ W' (v:=(i:Int)+1) (by omega) hi'
    have hp2:=ank_ W' (v:=b) (by omega) hb1.2
    have htn:((i:Int)+1).toNat=i+1:=by omega
    have hto:=hW'.to ((i:Int)+1) (by omega) (by omega)
    have stay:((i:Int)+1∈D++[b])→zL_ s ar b ((i:Int)+1)≠0→xB_ s ar fr b W' i=W':=by
     intro hm hne
     unfold xB_
     by_cases e:zL_ s ar b ((i:Int)+1)=0∨(i:Int)+1=fr
     ·rw [if_pos e]
     ·rw [if_neg e]
      rcases List.mem_append.1 hm with hm | hm
      ·have h1:=hgD _ hm
       have h2:=(hI.mem _ hm).2
       have h3:=hI.mono _ hm b g1.1 g1.2 g3 g2
       rw [h1,hgb]
       rw [if_neg (by rintro (h4 | h4);exact h2 h4;omega),if_neg (by omega)]
      ·rw [List.mem_singleton] at hm
       rw [hm,ap7_ hs] at hne
       exact absurd rfl hne
    refine ⟨⟨hst.1,hst.2.trans hgb,fun v hv=>?_⟩,fun w=>?_⟩
    ·rw [← hgD v hv]
     by_cases e:v=(i:Int)+1
     ·by_cases e2:zL_ s ar b ((i:Int)+1)=0
      ·unfold xB_;rw [if_pos (.inl e2)]
      ·rw [stay (List.mem_append.2 (.inl (e ▸ hv))) e2]
     ·have hv0:=(hI.mem v hv).1
      unfold xB_
      split
      ·rfl
      ·split
       ·rw [vR_ hl' hi6 (by omega),if_neg e]
       ·split
        ·rw [vR_ hl' hi6 (by omega),if_neg e]
        ·rfl
    by_cases q1:zL_ s ar b ((i:Int)+1)=0
    ·simp (disch:=omega) only [↓pq,ps,pz,↓reduceIte,reduceLE,reduceLT,reduceEq,reduceGT,reduceGE,reduceAdd,reduceSub,reduceMul,reduceNeg,zB_,zA_,zy_,zw_,zz_,hi',hM,q1]
     unfold xB_
     rw [if_pos (.inl q1)]
    cases q2:(D++[b]).contains ((i:Int)+1) with
    | true =>
     rw [stay (List.contains_iff_mem.1 q2) q1]
     simp (disch:=omega) only [↓pq,ps,pz,↓reduceIte,reduceLE,reduceLT,reduceEq,reduceGT,reduceGE,reduceAdd,reduceSub,reduceMul,reduceNeg,zB_,zA_,zy_,zw_,zz_,hi',hM,q1,hd1,q2]
    | false =>
     have q2':¬ ((i:Int)+1=fr):=fun e=>by
      have:=List.contains_iff_mem.2 hfrD
      rw [← e,q2] at this;cases this
     by_cases q3:b=fr
     ·skip
      have hsp:xB_ s ar fr b W' i=(if (gt W' ((i:Int)+1)).to=0∨(gt W' b).cost+zL_ s ar b ((i:Int)+1) < (gt W' ((i:Int)+1)).cost then W'.set (i+1) ⟨(i:Int)+1,(gt W' b).cost+zL_ s ar b ((i:Int)+1),[(i:Int)+1]⟩
       else if (gt W' b).cost+zL_ s ar b ((i:Int)+1)=(gt W' ((i:Int)+1)).cost then W'.set (i+1) (tog (gt W' ((i:Int)+1)) ⟨(i:Int)+1,(gt W' b).cost+zL_ s ar b ((i:Int)+1),[(i:Int)+1]⟩) else W'):=by
       unfold xB_
       rw [if_neg (by rintro (h1 | h1);exact q1 h1;exact q2' h1),if_pos q3]
      rw [hsp]
      by_cases q4:(gt W' ((i:Int)+1)).to=0
      ·rw [if_pos (.inl q4),jL_ hl' hi6,aai_ hl' hi6 (by show (i:Int)+1≠0;omega)]
       simp (disch:=omega) only [↓pq,ps,pz,↓reduceIte,reduceLE,reduceLT,reduceEq,reduceGT,reduceGE,reduceAdd,reduceSub,reduceMul,reduceNeg,zB_,zA_,zy_,zw_,zz_,hi',hM,q1,hd1,q2,hc1,hc2,hp1,hp2,hbt',eq_true q3,hA0 _ (jI_ (n:=(i:Int)+1) (by omega) (by omega)),v8_,qz_,htn,vX_,Bool.false_eq_true,q4]
      have hnn:¬ ((gt W' ((i:Int)+1)).cost < 0):=by omega
      by_cases q5:(gt W' b).cost+zL_ s ar b ((i:Int)+1) < (gt W' ((i:Int)+1)).cost
      ·rw [if_pos (.inr q5),jL_ hl' hi6,aai_ hl' hi6 (by show (i:Int)+1≠0;omega)]
       simp (disch:=omega) only [↓pq,ps,pz,↓reduceIte,reduceLE,reduceLT,reduceEq,reduceGT,reduceGE,reduceAdd,reduceSub,reduceMul,reduceNeg,zB_,zA_,zy_,zw_,zz_,hi',hM,q1,hd1,q2,hc1,hc2,hp1,hp2,hbt',eq_true q3,hA0 _ (jI_ (n:=(i:Int)+1) (by omega) (by omega)),v8_,qz_,htn,vX_,Bool.false_eq_true,q4,hnn,q5]
      rw [if_neg (by rintro (h1 | h1);exact q4 h1;exact q5 h1)]
      by_cases q6:(gt W' b).cost+zL_ s ar b ((i:Int)+1)=(gt W' ((i:Int)+1)).cost
      ·have htog:tog (gt W' ((i:Int)+1)) ⟨(i:Int)+1,(gt W' b).cost+zL_ s ar b ((i:Int)+1),[(i:Int)+1]⟩=⟨(gt W' ((i:Int)+1)).to,(gt W' ((i:Int)+1)).cost,uni (gt W' ((i:Int)+1)).hops ([(i:Int)+1])⟩:=by
        unfold tog
        rw [if_neg (by show ¬ ((gt W' b).cost+_ > _);omega),if_neg (by show ¬ (_ > (gt W' b).cost+_);omega)]
       rw [if_pos q6,htog,jL_ hl' hi6,aol_ (w:=⟨(gt W' ((i:Int)+1)).to,(gt W' ((i:Int)+1)).cost,uni (gt W' ((i:Int)+1)).hops [(i:Int)+1]⟩) hl' hi6 q4 q4 rfl]
       have hu:=wi_ (gt W' ((i:Int)+1)).hops ([(i:Int)+1]) (by omega) (by simp)
       have q5':¬ ((gt W' ((i:Int)+1)).cost < (gt W' ((i:Int)+1)).cost):=by omega
       simp (disch:=omega) only [↓pq,ps,pz,↓reduceIte,reduceLE,reduceLT,reduceEq,reduceGT,reduceGE,reduceAdd,reduceSub,reduceMul,reduceNeg,zB_,zA_,zy_,zw_,zz_,hi',hM,q1,hd1,q2,hc1,hc2,hp1,hp2,hbt',eq_true q3,hA0 _ (jI_ (n:=(i:Int)+1) (by omega) (by omega)),v8_,qz_,htn,vX_,Bool.false_eq_true,q4,hnn,q5,q5',q6,hu]
      ·rw [if_neg q6]
       simp (disch:=omega) only [↓pq,ps,pz,↓reduceIte,reduceLE,reduceLT,reduceEq,reduceGT,reduceGE,reduceAdd,reduceSub,reduceMul,reduceNeg,zB_,zA_,zy_,zw_,zz_,hi',hM,q1,hd1,q2,hc1,hc2,hp1,hp2,hbt',eq_true q3,hA0 _ (jI_ (n:=(i:Int)+1) (by omega) (by omega)),v8_,qz_,htn,vX_,Bool.false_eq_true,q4,hnn,q5,q6]
     ·skip
      have hsp:xB_ s ar fr b W' i=(if (gt W' ((i:Int)+1)).to=0∨(gt W' b).cost+zL_ s ar b ((i:Int)+1) < (gt W' ((i:Int)+1)).cost then W'.set (i+1) ⟨(i:Int)+1,(gt W' b).cost+zL_ s ar b ((i:Int)+1),(gt W' b).hops⟩
       else if (gt W' b).cost+zL_ s ar b ((i:Int)+1)=(gt W' ((i:Int)+1)).cost then W'.set (i+1) (tog (gt W' ((i:Int)+1)) ⟨(i:Int)+1,(gt W' b).cost+zL_ s ar b ((i:Int)+1),(gt W' b).hops⟩) else W'):=by
       unfold xB_
       rw [if_neg (by rintro (h1 | h1);exact q1 h1;exact q2' h1),if_neg q3]
      rw [hsp]
      by_cases q4:(gt W' ((i:Int)+1)).to=0
      ·rw [if_pos (.inl q4),jL_ hl' hi6,aai_ hl' hi6 (by show (i:Int)+1≠0;omega)]
       simp (disch:=omega) only [↓pq,ps,pz,↓reduceIte,reduceLE,reduceLT,reduceEq,reduceGT,reduceGE,reduceAdd,reduceSub,reduceMul,reduceNeg,zB_,zA_,zy_,zw_,zz_,hi',hM,q1,hd1,q2,hc1,hc2,hp1,hp2,hbt',eq_false q3,hA0 _ hhb,v8_,qz_,htn,vX_,Bool.false_eq_true,q4]
      have hnn:¬ ((gt W' ((i:Int)+1)).cost < 0):=by omega
      by_cases q5:(gt W' b).cost+zL_ s ar b ((i:Int)+1) < (gt W' ((i:Int)+1)).cost
      ·rw [if_pos (.inr q5),jL_ hl' hi6,aai_ hl' hi6 (by show (i:Int)+1≠0;omega)]
       simp (disch:=omega) only [↓pq,ps,pz,↓reduceIte,reduceLE,reduceLT,reduceEq,reduceGT,reduceGE,reduceAdd,reduceSub,reduceMul,reduceNeg,zB_,zA_,zy_,zw_,zz_,hi',hM,q1,hd1,q2,hc1,hc2,hp1,hp2,hbt',eq_false q3,hA0 _ hhb,v8_,qz_,htn,vX_,Bool.false_eq_true,q4,hnn,q5]
      rw [if_neg (by rintro (h1 | h1);exact q4 h1;exact q5 h1)]
      by_cases q6:(gt W' b).cost+zL_ s ar b ((i:Int)+1)=(gt W' ((i:Int)+1)).cost
      ·have htog:tog (gt W' ((i:Int)+1)) ⟨(i:Int)+1,(gt W' b).cost+zL_ s ar b ((i:Int)+1),(gt W' b).hops⟩=⟨(gt W' ((i:Int)+1)).to,(gt W' ((i:Int)+1)).cost,uni (gt W' ((i:Int)+1)).hops ((gt W' b).hops)⟩:=by
        unfold tog
        rw [if_neg (by show ¬ ((gt W' b).cost+_ > _);omega),if_neg (by show ¬ (_ > (gt W' b).cost+_);omega)]
       rw [if_pos q6,htog,jL_ hl' hi6,aol_ (w:=⟨(gt W' ((i:Int)+1)).to,(gt W' ((i:Int)+1)).cost,uni (gt W' ((i:Int)+1)).hops (gt W' b).hops⟩) hl' hi6 q4 q4 rfl]
       have hu:=wi_ (gt W' ((i:Int)+1)).hops ((gt W' b).hops) (by omega) (by omega)
       have q5':¬ ((gt W' ((i:Int)+1)).cost < (gt W' ((i:Int)+1)).cost):=by omega
       simp (disch:=omega) only [↓pq,ps,pz,↓reduceIte,reduceLE,reduceLT,reduceEq,reduceGT,reduceGE,reduceAdd,reduceSub,reduceMul,reduceNeg,zB_,zA_,zy_,zw_,zz_,hi',hM,q1,hd1,q2,hc1,hc2,hp1,hp2,hbt',eq_false q3,hA0 _ hhb,v8_,qz_,htn,vX_,Bool.false_eq_true,q4,hnn,q5,q5',q6,hu]
      ·rw [if_neg q6]
       simp (disch:=omega) only [↓pq,ps,pz,↓reduceIte,reduceLE,reduceLT,reduceEq,reduceGT,reduceGE,reduceAdd,reduceSub,reduceMul,reduceNeg,zB_,zA_,zy_,zw_,zz_,hi',hM,q1,hd1,q2,hc1,hc2,hp1,hp2,hbt',eq_false q3,hA0 _ hhb,v8_,qz_,htn,vX_,Bool.false_eq_true,q4,hnn,q5,q6]
   ·intro W' w _
    simp (disch:=omega) only [↓pq,ps,pz,↓reduceIte,reduceLE,reduceLT,reduceEq,reduceGT,reduceGE,reduceAdd,reduceSub,reduceMul,reduceNeg,zB_,zA_,zy_,zw_,zz_,]
 refine yy_ 6 (fun i c=>[ii (i+1),.l (c.map eInt)]) (fun c i=>c.set (i+1) (-1)) (fun c=>if c=[0,-1,-1,-1,-1,-1,-1] then some [T.l ((qT_ (dij s ar fr 6 (W0 fr) [])).map eWay)] else none) (List.replicate 7 0) (fun i c=>c=(List.range i).foldl (fun c i=>c.set (i+1) (-1)) (List.replicate 7 0)) rfl (zb_ (by omega)) rfl ?_ ?_ |>.trans (by rfl)
 ·intro i c hi hc
  have hl:c.length=7:=by rw [hc,aj3_ (fun M x=>by simp)];simp
  have hi':(i:Int)+1≤6:=by omega
  have htn:((i:Int)+1).toNat=i+1:=by omega
  refine ⟨by rw [List.range_succ,List.foldl_append,← hc];rfl,fun q=>?_⟩
  simp (disch:=omega) only [↓pq,ps,pz,↓reduceIte,reduceLE,reduceLT,reduceEq,reduceGT,reduceGE,reduceAdd,reduceSub,reduceMul,reduceNeg,zB_,zA_,zy_,zw_,zz_,hi',v8_,htn]
 ·intro c q hc
  have hc:c=[0,-1,-1,-1,-1,-1,-1]:=hc
  rw [hc,if_pos rfl]
  have hlt:fr < (([0,-1,-1,-1,-1,-1,-1]:List Int).length:Int):=by simp;omega
  have hput:Prim.ev (.put true 1 0 1) [.l (([0,-1,-1,-1,-1,-1,-1]:List Int).map eInt),ii fr,ii 0]=some (.l ((w8_ (W0 fr)).map eInt)):=by
   rw [v8_ (by omega) hlt]
   congr 3
   unfold w8_
   rw [show ([0,-1,-1,-1,-1,-1,-1]:List Int)=tab (fun i=>if i=0 then 0 else -1) from rfl,agj_]
   refine jM_ fun i hi=>?_
   rw [ali_ h6' (by omega) (by omega)]
   by_cases e:i=fr.toNat
   ·have e1:fr=(i:Int):=by omega
    have e2:¬ (i=0):=by omega
    rw [if_pos e,if_neg e2,if_pos e1]
    show (0:Int)=if fr=0 then -1 else 0
    rw [if_neg (by omega)]
   ·have e1:¬ (fr=(i:Int)):=by omega
    rw [if_neg e,if_neg e1]
    by_cases e0:i=0
    ·rw [if_pos e0,if_pos e0]
    ·rw [if_neg e0,if_neg e0];rfl
  have hh:(List.replicate 7 ([]:List Int))=v6_ (W0 fr):=by
   show tab (fun _=>[])=_
   unfold v6_
   refine jM_ fun i hi=>?_
   rw [ali_ h6' (by omega) (by omega)]
   split <;> rfl
  have hdn:List.replicate 7 false=qe_ []:=rfl
  simp (disch:=omega) only [↓pq,ps,pz,↓reduceIte,reduceLE,reduceLT,reduceEq,reduceGT,reduceGE,reduceAdd,reduceSub,reduceMul,reduceNeg,zB_,zA_,zy_,zw_,zz_,hput,hh,hdn]
  refine aKd_ (s:=s) hs (ar:=ar) (fr:=fr) (fun r W D=>[ii r,.l ((v6_ W).map u8_),.l ((qe_ D).map yx_),.l ((w8_ W).map eInt)]) (out:=fun W=>some [T.l ((qT_ W).map eWay)]) ?_ ?_ ?_ 6 (W0 fr) [] rounds (DInv.start h6') rfl (by unfold rounds;omega)
  ·intro W D q hI hD hb
   rw [sel W D q hI hD,if_pos hb]
  ·intro W D q hI hD hb
   rw [sel W D q hI hD,if_neg hb]
  ·intro W D q hI hb
   have l1:=akr_ D
   have l2:=aj6_ W
   have l3:=ako_ W
   simp (disch:=omega) only [↓pq,ps,pz,↓reduceIte,reduceLE,reduceLT,reduceEq,reduceGT,reduceGE,reduceAdd,reduceSub,reduceMul,reduceNeg,zB_,zA_,zy_,zw_,zz_,]
   refine (yy_ 6 (fun i c=>[.l (c.map eWay),ii (i+1)]) (fun c i=>if D.contains ((i:Int)+1)=true then c++[⟨(i:Int)+1,(gt W ((i:Int)+1)).cost,(gt W ((i:Int)+1)).hops⟩] else c) (fun c=>some [T.l (c.map eWay)]) [] (fun i c=>c.length≤i) rfl (zb_ (by omega)) (by simp) ?_ ?_).trans (by rw [w7_ (fun i:Nat=>D.contains ((i:Int)+1)) (fun i:Nat=>(⟨(i:Int)+1,(gt W ((i:Int)+1)).cost,(gt W ((i:Int)+1)).hops⟩:Way)),List.nil_append,← aKi_ hI hb])
   ·intro i c hi hc
    refine ⟨by split <;> (try simp) <;> omega,fun w=>?_⟩
    have hi':(i:Int)+1≤6:=by omega
    have hd1:=an7_ D (v:=(i:Int)+1) (by omega) hi'
    have hc1:=ab1_ W (v:=(i:Int)+1) (by omega) hi'
    have hp1:=ank_ W (v:=(i:Int)+1) (by omega) hi'
    have hhl:=zG_ (hI.ok.hops ((i:Int)+1) (by omega) (by omega))
    cases hcd:D.contains ((i:Int)+1) with
    | false=>simp (disch:=omega) only [↓pq,ps,pz,↓reduceIte,reduceLE,reduceLT,reduceEq,reduceGT,reduceGE,reduceAdd,reduceSub,reduceMul,reduceNeg,zB_,zA_,zy_,zw_,zz_,hi',hd1,hcd,Bool.false_eq_true]
    | true =>
     have ht:=(hI.mem _ (List.contains_iff_mem.1 hcd)).2
     simp (disch:=omega) only [↓pq,ps,pz,↓reduceIte,reduceLE,reduceLT,reduceEq,reduceGT,reduceGE,reduceAdd,reduceSub,reduceMul,reduceNeg,zB_,zA_,zy_,zw_,zz_,hi',hd1,hcd,hc1,hp1,ht,vX_]
   ·intro c w hc
    simp (disch:=omega) only [↓pq,ps,pz,↓reduceIte,reduceLE,reduceLT,reduceEq,reduceGT,reduceGE,reduceAdd,reduceSub,reduceMul,reduceNeg,zB_,zA_,zy_,zw_,zz_,]
end Go.Proofs.YtiebbbmibbkpcaaGreatC

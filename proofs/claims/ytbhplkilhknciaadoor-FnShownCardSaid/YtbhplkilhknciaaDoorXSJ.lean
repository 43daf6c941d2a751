/- The reference finds the shortest ways, too. Conditions: none. -/
import Derived.Test.YtbhplkilhknciaaDoorXSI
namespace Go.Proofs.YtbhplkilhknciaaDoorC
open Int (reduceLE reduceLT reduceEq reduceGT reduceGE reduceAdd reduceSub reduceMul reduceNeg)
set_option linter.unusedVariables false
set_option linter.unusedSimpArgs false
theorem six_map:six=(List.range 6).map fun i:Nat=>(i:Int)+1:=rfl
theorem e_s_l06Add (a b:List Int) (ha:a.length≤1048576) (hb:b.length≤1048576):F_s_l06Add [.l (a.map eInt),.l (b.map eInt)]=some [.l ((uni a b).map eInt)]:=by
 rw [g_s_l06Add];simp (disch:=omega) only [↓pq,↓pj,ps,pz,↓reduceIte,reduceLE,reduceLT,reduceEq,reduceGT,reduceGE,reduceAdd,reduceSub,reduceMul,reduceNeg,G_s_l06Add_l0,G_s_l06Add]
 refine (iter_uptox 6 (fun i c=>[.l (c.map eInt),ii (i+1)]) (fun c i=>if (a.contains ((i:Int)+1) || b.contains ((i:Int)+1))=true then c++[(i:Int)+1] else c) (fun c=>some [T.l (c.map eInt)]) [] (fun i c=>c.length≤i) rfl (rounds_lt (by omega)) (by simp) ?_ ?_).trans ?_
 ·intro i c hi hc
  refine ⟨by split <;> (try simp) <;> omega,fun q=>?_⟩
  have hi':(i:Int)+1≤6:=by omega
  cases h1:a.contains ((i:Int)+1) <;> cases h2:b.contains ((i:Int)+1) <;> simp (disch:=omega) only [↓pq,↓pj,ps,pz,↓reduceIte,reduceLE,reduceLT,reduceEq,reduceGT,reduceGE,reduceAdd,reduceSub,reduceMul,reduceNeg,G_s_l06Add_l0,hi',e_s_l03In _ _ ha,e_s_l03In _ _ hb,h1,h2,Bool.or_true,Bool.or_false,Bool.false_eq_true]
 ·intro c q hc
  simp (disch:=omega) only [↓pq,↓pj,ps,pz,↓reduceIte,reduceLE,reduceLT,reduceEq,reduceGT,reduceGE,reduceAdd,reduceSub,reduceMul,reduceNeg,G_s_l06Add_l0,]
 ·rw [foldl_keep (fun i:Nat=>a.contains ((i:Int)+1) || b.contains ((i:Int)+1)) (fun i:Nat=>(i:Int)+1),List.nil_append]
  unfold uni
  rw [six_map,List.filter_map]
  rfl
theorem e_s_Better (a b:Int) (t:T) (a' b':Int) (t':T):F_s_Better [ii a,ii b,t,ii a',ii b',t']=some [bb (decide (b < b'))]:=by
 rw [g_s_Better];simp (disch:=omega) only [↓pq,↓pj,ps,pz,↓reduceIte,reduceLE,reduceLT,reduceEq,reduceGT,reduceGE,reduceAdd,reduceSub,reduceMul,reduceNeg,G_s_Better]
theorem e_s_Together (a b:Int) (l:List Int) (a' b':Int) (l':List Int) (h:l.length≤1048576) (h':l'.length≤1048576):F_s_Together [ii a,ii b,.l (l.map eInt),ii a',ii b',.l (l'.map eInt)]=some (eWay (tog ⟨a,b,l⟩ ⟨a',b',l'⟩)):=by
 rw [g_s_Together];simp (disch:=omega) only [↓pq,↓pj,ps,pz,↓reduceIte,reduceLE,reduceLT,reduceEq,reduceGT,reduceGE,reduceAdd,reduceSub,reduceMul,reduceNeg,G_s_Together,e_s_Better,e_s_l06Copy _ _ _ h,e_s_l06Copy _ _ _ h',e_s_l06Add _ _ h h']
 unfold tog
 by_cases h1:b < b'
 ·have h2:b' > b:=h1
  simp only [h1,h2,if_true];rfl
 ·have h2:¬ (b' > b):=h1
  by_cases h3:b' < b
  ·have h4:b > b':=h3
   simp only [h1,h2,h3,h4,if_true,if_false];rfl
  ·have h4:¬ (b > b'):=h3
   simp only [h1,h2,h3,h4,if_false];rfl
def costL (W:List Way):List Int:=tab fun i=>if i=0 then 0 else if (gt W (i:Int)).to=0 then -1 else (gt W (i:Int)).cost
def hopsL (W:List Way):List (List Int):=tab fun i=>(gt W (i:Int)).hops
def doneL (D:List Int):List Bool:=tab fun i=>D.contains (i:Int)
theorem costL_gt (W:List Way) {v:Int} (h:1≤v) (h':v≤6):gt (costL W) v=if (gt W v).to=0 then -1 else (gt W v).cost:=by
 unfold costL
 rw [gt_tab _ (by omega) (by omega),if_neg (by omega),show ((v.toNat:Nat):Int)=v by omega]
theorem hopsL_gt (W:List Way) {v:Int} (h:0≤v) (h':v≤6):gt (hopsL W) v=(gt W v).hops:=by
 unfold hopsL
 rw [gt_tab _ h (by omega),show ((v.toNat:Nat):Int)=v by omega]
theorem doneL_gt (D:List Int) {v:Int} (h:0≤v) (h':v≤6):gt (doneL D) v=D.contains v:=by
 unfold doneL
 rw [gt_tab _ h (by omega),show ((v.toNat:Nat):Int)=v by omega]
theorem costL_len (W:List Way):(costL W).length=7:=tab_len _
theorem hopsL_len (W:List Way):(hopsL W).length=7:=tab_len _
theorem doneL_len (D:List Int):(doneL D).length=7:=tab_len _
theorem costL_set {W:List Way} (hl:W.length=7) {i:Nat} (hi:i < 6) {w:Way} (ht:w.to≠0):costL (W.set (i+1) w)=(costL W).set (i+1) w.cost:=by
 unfold costL
 rw [set_tab]
 refine tab_congr fun j hj=>?_
 rw [set_gt hl hi (by omega)]
 by_cases h:j=i+1
 ·subst h
  simp [ht]
 ·rw [if_neg (show ¬ ((j:Int)=(i:Int)+1) by omega),if_neg h]
theorem hopsL_set {W:List Way} (hl:W.length=7) {i:Nat} (hi:i < 6) (w:Way):hopsL (W.set (i+1) w)=(hopsL W).set (i+1) w.hops:=by
 unfold hopsL
 rw [set_tab]
 refine tab_congr fun j hj=>?_
 rw [set_gt hl hi (by omega)]
 by_cases h:j=i+1
 ·subst h
  rw [if_pos (by simp),if_pos rfl]
 ·rw [if_neg (show ¬ ((j:Int)=(i:Int)+1) by omega),if_neg h]
theorem costL_same {W:List Way} (hl:W.length=7) {i:Nat} (hi:i < 6) {w:Way} (ht:w.to≠0) (h0:(gt W ((i:Int)+1)).to≠0) (hc:w.cost=(gt W ((i:Int)+1)).cost):costL (W.set (i+1) w)=costL W:=by
 rw [costL_set hl hi ht]
 unfold costL
 rw [set_tab]
 refine tab_congr fun j hj=>?_
 by_cases h:j=i+1
 ·subst h
  rw [if_pos rfl,if_neg (by omega),if_neg (by simpa using h0),hc]
  simp
 ·rw [if_neg h]
theorem doneL_set (D:List Int) {b:Int} (h:1≤b) (h':b≤6):(doneL D).set b.toNat true=doneL (D++[b]):=by
 unfold doneL
 rw [set_tab]
 refine tab_congr fun j hj=>?_
 by_cases e:j=b.toNat
 ·rw [if_pos e]
  have:(j:Int)=b:=by omega
  rw [this]
  simp
 ·rw [if_neg e]
  have:¬ ((j:Int)=b):=by omega
  rw [Bool.eq_iff_iff,List.contains_iff_mem,List.contains_iff_mem]
  simp [this]
theorem tab_self {W:List Way} (h:W.length=7):W=tab fun i=>gt W (i:Int):=by
 refine List.ext_getElem (by rw [tab_len,h]) fun i h1 h2=>?_
 simp only [tab,List.getElem_map,List.getElem_range]
 rw [gt_elem h1]
theorem iter_dij2 {s:List Rcd} (hs:storeOk s=true) {ar fr:Int} {F:Sem1→Sem1} (st:Int→List Way→List Int→List T) {out:List Way→Option (List T)}
  (hA:∀ W D q,DInv fr W D→D.length < 6→best W D=0→F q (st (D.length+1) W D)=q (st 7 W D))
  (hB:∀ W D q,DInv fr W D→D.length < 6→best W D≠0→F q (st (D.length+1) W D)=q (st (D.length+1+1) (spr s ar fr (best W D) W) (D++[best W D])))
  (fin:∀ W D q,DInv fr W D→best W D=0→F q (st 7 W D)=out W) :
  ∀ k W D R,DInv fr W D→D.length+k=6→k+1 < R→iter F R (st (D.length+1) W D)=out (dij s ar fr k W D):=by
 intro k
 induction k with
 | zero =>
  intro W D R h hk hR
  cases R with
  | zero=>omega
  | succ R =>
   have hb:=h.full (by omega)
   unfold iter
   rw [show ((D.length:Int)+1)=7 by omega]
   exact fin W D _ h hb
 | succ k ih =>
  intro W D R h hk hR
  cases R with
  | zero=>omega
  | succ R =>
   unfold iter
   by_cases hb:best W D=0
   ·rw [hA W D _ h (by omega) hb]
    cases R with
    | zero=>omega
    | succ R =>
     unfold iter
     rw [fin W D _ h hb]
     unfold dij
     rw [if_pos hb]
   ·rw [hB W D _ h (by omega) hb]
    have:=ih _ _ R (h.step hs ar hb) (by simp;omega) (by omega)
    rw [show (((D++[best W D]).length:Int)+1)=D.length+1+1 by simp] at this
    rw [this]
    conv=>rhs;unfold dij
    rw [if_neg hb]
theorem known_tab {W:List Way} {D:List Int} {fr:Int} (h:DInv fr W D) (hb:best W D=0):known W=((List.range 6).filter fun i:Nat=>D.contains ((i:Int)+1)).map fun i:Nat=>(⟨(i:Int)+1,(gt W ((i:Int)+1)).cost,(gt W ((i:Int)+1)).hops⟩:Way):=by
 have hD:=((best_spec W D).resolve_right fun e=>by omega).2
 have e:W=gt W 0 :: (List.range 6).map fun i:Nat=>gt W ((i:Int)+1):=(tab_self h.ok.len).trans rfl
 have h0:(gt W 0).to=0:=(h.ok.to 0 (by omega) (by omega)).elim id id
 have hf:known W=(((List.range 6).map fun i:Nat=>gt W ((i:Int)+1)).filter fun w=>!(w.to == 0)):=by
  unfold known
  conv=>lhs;rw [e]
  rw [List.filter_cons,if_neg (by simp [h0])]
 rw [hf,List.filter_map]
 have hp:∀ i:Nat,i∈List.range 6→((fun w:Way=>!(w.to == 0)) ∘ fun i:Nat=>gt W ((i:Int)+1)) i=D.contains ((i:Int)+1):=by
  intro i hi
  have hi:i < 6:=by simpa using hi
  rw [Bool.eq_iff_iff,List.contains_iff_mem]
  simp only [Function.comp,Bool.not_eq_true',beq_eq_false_iff_ne]
  exact ⟨fun h1=>hD _ (by omega) (by omega) h1,fun h1=>(h.mem _ h1).2⟩
 rw [List.filter_congr hp]
 refine List.map_congr_left fun i hi=>?_
 obtain ⟨h1,h2⟩:=List.mem_filter.1 hi
 have h1:i < 6:=by simpa using h1
 have h3:=(h.mem _ (List.contains_iff_mem.1 h2)).2
 have h4:=(h.ok.to ((i:Int)+1) (by omega) (by omega)).resolve_left h3
 have hw:∀ (w:Way) (n:Int),w.to=n→w=⟨n,w.cost,w.hops⟩:=by intro w n hn;subst hn;rfl
 exact hw _ _ h4
set_option maxHeartbeats 1600000 in
theorem e_s_WaysIn (s:List Rcd) (ar fr:Int) (h:s.length≤1048576) (hn:NearL s):F_s_WaysIn [.l (s.map eRcd),ii ar,ii fr]=some [.l ((waysIn s ar fr).map eWay)]:=by
 obtain ⟨c0,c1,c2,c3,c4,c6,c7,e⟩:=l06Node_near s ar fr h
 rw [g_s_WaysIn];simp (disch:=omega) only [↓pq,↓pj,ps,pz,↓reduceIte,reduceLE,reduceLT,reduceEq,reduceGT,reduceGE,reduceAdd,reduceSub,reduceMul,reduceNeg,G_s_WaysIn_l0,G_s_WaysIn_l1,G_s_WaysIn_l2,G_s_WaysIn_l3,G_s_WaysIn_l4,G_s_WaysIn,e,e_s_StoreOk _ h hn,e_s_l01In]
 unfold waysIn
 cases hs:storeOk s with
 | false=>simp
 | true =>
 cases h6:inB fr 1 6 with
 | false=>simp
 | true =>
 have h6':=inB_iff.1 h6
 by_cases hq:0≤nodeP s ar fr
 case neg=>simp [hq]
 rw [if_pos (show (true=true∧true=true∧0≤nodeP s ar fr) from ⟨rfl,rfl,hq⟩)]
 have m1:=mk_run (enc:=eInt) (n:=7) (x:=0) (vs:=[ii 0]) (by decide) rfl
 have m2:=mk_run (enc:=eInts) (n:=7) (x:=[]) (vs:=[.l []]) (by decide) rfl
 have m3:=mk_run (enc:=eBool) (n:=7) (x:=false) (vs:=[bb false]) (by decide) rfl
 simp only [not_true_eq_false,if_false,hq]
 rw [e_s_l06Links _ _ h hn hs,cl1_s]
 rw [show Prim.ev .mk [ii 7,ii 7,ii 0]=some (.l ((List.replicate 7 (0:Int)).map eInt)) from m1,bind_some',show Prim.ev .mk [ii 7,ii 7,.l []]=some (.l ((List.replicate 7 ([]:List Int)).map eInts)) from m2,bind_some',
  show Prim.ev .mk [ii 7,ii 7,bb false]=some (.l ((List.replicate 7 false).map eBool)) from m3,bind_some']
 have hA0:∀ w:List Int,HopsOk w→F_s_l06Add [.l [],.l (w.map eInt)]=some [.l (w.map eInt)]:=fun w hw=>by
  have:=e_s_l06Add [] w (by simp) (by have:=hops_len hw;omega)
  rw [uni_nil hw] at this
  exact this
 have hML:=linkM_len s ar
 have sel:∀ W D q,DInv fr W D→D.length < 6→G_s_WaysIn_l3 rounds F_s_l06Add (ii fr) (T.l []) (T.l (List.map eInt (linkM s ar))) q [ii (D.length+1),.l ((hopsL W).map eInts),.l ((doneL D).map eBool),.l ((costL W).map eInt)] =
   if best W D=0 then q [ii 7,.l ((hopsL W).map eInts),.l ((doneL D).map eBool),.l ((costL W).map eInt)]
   else q [ii (D.length+1+1),.l ((hopsL (spr s ar fr (best W D) W)).map eInts),.l ((doneL (D++[best W D])).map eBool),.l ((costL (spr s ar fr (best W D) W)).map eInt)]:=by
  intro W D q hI hD
  have hle:(D.length:Int)+1≤6:=by omega
  have hW:=hI.ok
  have hWl:=hW.len
  have l1:=doneL_len D
  have l2:=costL_len W
  have l3:=hopsL_len W
  simp (disch:=omega) only [↓pq,↓pj,ps,pz,↓reduceIte,reduceLE,reduceLT,reduceEq,reduceGT,reduceGE,reduceAdd,reduceSub,reduceMul,reduceNeg,G_s_WaysIn_l0,G_s_WaysIn_l1,G_s_WaysIn_l2,G_s_WaysIn_l3,G_s_WaysIn_l4,hle]
  refine iter_uptox 6 (fun i b=>[ii b,ii (i+1)]) (bestStep W D) (fun b=>if b=0 then q [ii 7,.l ((hopsL W).map eInts),.l ((doneL D).map eBool),.l ((costL W).map eInt)]
   else q [ii (D.length+1+1),.l ((hopsL (spr s ar fr b W)).map eInts),.l ((doneL (D++[b])).map eBool),.l ((costL (spr s ar fr b W)).map eInt)]) 0 (fun i b=>b=(List.range i).foldl (bestStep W D) 0∧0≤b∧b≤6∧(b≠0→(gt W b).to≠0)) rfl (rounds_lt (by omega)) (by simp) ?_ ?_
  ·intro i b hi ⟨hbe,hb0,hb6,hbt⟩
   refine ⟨⟨by rw [List.range_succ,List.foldl_append,← hbe];rfl,?_⟩,fun w=>?_⟩
   ·unfold bestStep
    split
    ·rename_i hx;exact ⟨by omega,by omega,fun _=>hx.1⟩
    ·exact ⟨hb0,hb6,hbt⟩
   ·have hi':(i:Int)+1≤6:=by omega
    have hc1:=costL_gt W (v:=(i:Int)+1) (by omega) hi'
    have hd1:=doneL_gt D (v:=(i:Int)+1) (by omega) hi'
    have hco:=hW.cost ((i:Int)+1) (by omega) (by omega)
    unfold bestStep
    cases hcd:D.contains ((i:Int)+1) with
    | true=>simp (disch:=omega) only [↓pq,↓pj,ps,pz,↓reduceIte,reduceLE,reduceLT,reduceEq,reduceGT,reduceGE,reduceAdd,reduceSub,reduceMul,reduceNeg,G_s_WaysIn_l0,G_s_WaysIn_l1,G_s_WaysIn_l2,G_s_WaysIn_l3,G_s_WaysIn_l4,hi',hd1,hcd];simp
    | false =>
     by_cases q1:(gt W ((i:Int)+1)).to=0
     ·simp (disch:=omega) only [↓pq,↓pj,ps,pz,↓reduceIte,reduceLE,reduceLT,reduceEq,reduceGT,reduceGE,reduceAdd,reduceSub,reduceMul,reduceNeg,G_s_WaysIn_l0,G_s_WaysIn_l1,G_s_WaysIn_l2,G_s_WaysIn_l3,G_s_WaysIn_l4,hi',hd1,hcd,hc1,q1,Bool.false_eq_true]
      simp
     ·have hge:(gt W ((i:Int)+1)).cost ≥ 0:=hco.1
      by_cases q2:b=0
      ·simp (disch:=omega) only [↓pq,↓pj,ps,pz,↓reduceIte,reduceLE,reduceLT,reduceEq,reduceGT,reduceGE,reduceAdd,reduceSub,reduceMul,reduceNeg,G_s_WaysIn_l0,G_s_WaysIn_l1,G_s_WaysIn_l2,G_s_WaysIn_l3,G_s_WaysIn_l4,hi',hd1,hcd,hc1,q1,q2,hge,Bool.false_eq_true]
       simp
      ·have hcb:=costL_gt W (v:=b) (by omega) hb6
       have hbt':=hbt q2
       by_cases q3:(gt W ((i:Int)+1)).cost < (gt W b).cost
       ·simp (disch:=omega) only [↓pq,↓pj,ps,pz,↓reduceIte,reduceLE,reduceLT,reduceEq,reduceGT,reduceGE,reduceAdd,reduceSub,reduceMul,reduceNeg,G_s_WaysIn_l0,G_s_WaysIn_l1,G_s_WaysIn_l2,G_s_WaysIn_l3,G_s_WaysIn_l4,hi',hd1,hcd,hc1,hcb,hbt',q1,q2,q3,hge,Bool.false_eq_true]
        simp
       ·simp (disch:=omega) only [↓pq,↓pj,ps,pz,↓reduceIte,reduceLE,reduceLT,reduceEq,reduceGT,reduceGE,reduceAdd,reduceSub,reduceMul,reduceNeg,G_s_WaysIn_l0,G_s_WaysIn_l1,G_s_WaysIn_l2,G_s_WaysIn_l3,G_s_WaysIn_l4,hi',hd1,hcd,hc1,hcb,hbt',q1,q2,q3,hge,Bool.false_eq_true]
        simp
  ·intro b w ⟨hbe,hb0,hb6,hbt⟩
   by_cases hb:b=0
   ·simp (disch:=omega) only [↓pq,↓pj,ps,pz,↓reduceIte,reduceLE,reduceLT,reduceEq,reduceGT,reduceGE,reduceAdd,reduceSub,reduceMul,reduceNeg,G_s_WaysIn_l0,G_s_WaysIn_l1,G_s_WaysIn_l2,G_s_WaysIn_l3,G_s_WaysIn_l4,hb]
   have hbb:b=best W D:=hbe
   have hb1:1≤b∧b≤6:=by omega
   obtain ⟨g1,g2,g3,g4⟩:=(best_spec W D).resolve_left fun e=>hb (hbb.trans e.1)
   rw [← hbb] at g1 g2 g3 g4
   have hcb:=hW.cost b (by omega) (by omega)
   have l4:=doneL_len (D++[b])
   have hfrD:fr∈D++[b]:=by
    rcases hI.first with ⟨e,hf⟩ | hf
    ·rw [hf b g1.1 g1.2 g2];simp
    ·simp [hf]
   simp (disch:=omega) only [↓pq,↓pj,ps,pz,↓reduceIte,reduceLE,reduceLT,reduceEq,reduceGT,reduceGE,reduceAdd,reduceSub,reduceMul,reduceNeg,G_s_WaysIn_l0,G_s_WaysIn_l1,G_s_WaysIn_l2,G_s_WaysIn_l3,G_s_WaysIn_l4,hb,put_Bool,doneL_set D hb1.1 hb1.2]
   refine iter_uptox 6 (fun i W'=>[ii (i+1),.l ((hopsL W').map eInts),.l ((costL W').map eInt)]) (spStep s ar fr b) (fun W'=>q [ii (D.length+1+1),.l ((hopsL W').map eInts),.l ((doneL (D++[b])).map eBool),.l ((costL W').map eInt)]) W (fun i W'=>WOk1 W' (1000 * D.length+1000)∧gt W' b=gt W b∧∀ v∈D,gt W' v=gt W v) rfl (rounds_lt (by omega)) ⟨hW.mono (by omega),rfl,fun _ _=>rfl⟩ ?_ ?_
   ·intro i W' hi ⟨hW',hgb,hgD⟩
    have hi6:i < 6:=by omega
    have hst:=spStep_ok hs ar fr hb1 (by omega) hW' (by rw [hgb];exact hcb.2) hi6
    have hi':(i:Int)+1≤6:=by omega
    have hl':=hW'.len
    have hlk:=linkC_bnd hs ar b ((i:Int)+1)
    have hcb':=hW'.cost b (by omega) (by omega)
    have hco':=hW'.cost ((i:Int)+1) (by omega) (by omega)
    have hhb:=hW'.hops b (by omega) (by omega)
    have hho:=hW'.hops ((i:Int)+1) (by omega) (by omega)
    have hhl:=hops_len hhb
    have hhl2:=hops_len hho
    have l5:=costL_len W'
    have l6:=hopsL_len W'
    have hM:=linkM_gt hs ar (u:=b) (v:=(i:Int)+1) hb1 (by omega)
    have hc1:=costL_gt W' (v:=(i:Int)+1) (by omega) hi'
    have hc2:=costL_gt W' (v:=b) hb1.1 hb1.2
    have hbt':(gt W' b).to≠0:=by rw [hgb];exact g2
    have hd1:=doneL_gt (D++[b]) (v:=(i:Int)+1) (by omega) hi'
    have hp1:=hopsL_gt W' (v:=(i:Int)+1) (by omega) hi'
    have hp2:=hopsL_gt W' (v:=b) (by omega) hb1.2
    have htn:((i:Int)+1).toNat=i+1:=by omega
    have hto:=hW'.to ((i:Int)+1) (by omega) (by omega)
    have stay:((i:Int)+1∈D++[b])→linkC s ar b ((i:Int)+1)≠0→spStep s ar fr b W' i=W':=by
     intro hm hne
     unfold spStep
     by_cases e:linkC s ar b ((i:Int)+1)=0∨(i:Int)+1=fr
     ·rw [if_pos e]
     ·rw [if_neg e]
      rcases List.mem_append.1 hm with hm | hm
      ·have h1:=hgD _ hm
       have h2:=(hI.mem _ hm).2
       have h3:=hI.mono _ hm b g1.1 g1.2 g3 g2
       rw [h1,hgb]
       rw [if_neg (by rintro (h4 | h4);exact h2 h4;omega),if_neg (by omega)]
      ·rw [List.mem_singleton] at hm
       rw [hm,linkC_self hs] at hne
       exact absurd rfl hne
    refine ⟨⟨hst.1,hst.2.trans hgb,fun v hv=>?_⟩,fun w=>?_⟩
    ·rw [← hgD v hv]
     by_cases e:v=(i:Int)+1
     ·by_cases e2:linkC s ar b ((i:Int)+1)=0
      ·unfold spStep;rw [if_pos (.inl e2)]
      ·rw [stay (List.mem_append.2 (.inl (e ▸ hv))) e2]
     ·have hv0:=(hI.mem v hv).1
      unfold spStep
      split
      ·rfl
      ·split
       ·rw [set_gt hl' hi6 (by omega),if_neg e]
       ·split
        ·rw [set_gt hl' hi6 (by omega),if_neg e]
        ·rfl
    by_cases q1:linkC s ar b ((i:Int)+1)=0
    ·simp (disch:=omega) only [↓pq,↓pj,ps,pz,↓reduceIte,reduceLE,reduceLT,reduceEq,reduceGT,reduceGE,reduceAdd,reduceSub,reduceMul,reduceNeg,G_s_WaysIn_l0,G_s_WaysIn_l1,G_s_WaysIn_l2,G_s_WaysIn_l3,G_s_WaysIn_l4,hi',hM,q1]
     unfold spStep
     rw [if_pos (.inl q1)]
    cases q2:(D++[b]).contains ((i:Int)+1) with
    | true =>
     rw [stay (List.contains_iff_mem.1 q2) q1]
     simp (disch:=omega) only [↓pq,↓pj,ps,pz,↓reduceIte,reduceLE,reduceLT,reduceEq,reduceGT,reduceGE,reduceAdd,reduceSub,reduceMul,reduceNeg,G_s_WaysIn_l0,G_s_WaysIn_l1,G_s_WaysIn_l2,G_s_WaysIn_l3,G_s_WaysIn_l4,hi',hM,q1,hd1,q2]
    | false =>
     have q2':¬ ((i:Int)+1=fr):=fun e=>by
      have:=List.contains_iff_mem.2 hfrD
      rw [← e,q2] at this;cases this
     by_cases q3:b=fr
     ·skip
      have hsp:spStep s ar fr b W' i=(if (gt W' ((i:Int)+1)).to=0∨(gt W' b).cost+linkC s ar b ((i:Int)+1) < (gt W' ((i:Int)+1)).cost then W'.set (i+1) ⟨(i:Int)+1,(gt W' b).cost+linkC s ar b ((i:Int)+1),[(i:Int)+1]⟩
       else if (gt W' b).cost+linkC s ar b ((i:Int)+1)=(gt W' ((i:Int)+1)).cost then W'.set (i+1) (tog (gt W' ((i:Int)+1)) ⟨(i:Int)+1,(gt W' b).cost+linkC s ar b ((i:Int)+1),[(i:Int)+1]⟩) else W'):=by
       unfold spStep
       rw [if_neg (by rintro (h1 | h1);exact q1 h1;exact q2' h1),if_pos q3]
      rw [hsp]
      by_cases q4:(gt W' ((i:Int)+1)).to=0
      ·rw [if_pos (.inl q4),hopsL_set hl' hi6,costL_set hl' hi6 (by show (i:Int)+1≠0;omega)]
       simp (disch:=omega) only [↓pq,↓pj,ps,pz,↓reduceIte,reduceLE,reduceLT,reduceEq,reduceGT,reduceGE,reduceAdd,reduceSub,reduceMul,reduceNeg,G_s_WaysIn_l0,G_s_WaysIn_l1,G_s_WaysIn_l2,G_s_WaysIn_l3,G_s_WaysIn_l4,hi',hM,q1,hd1,q2,hc1,hc2,hp1,hp2,hbt',eq_true q3,hA0 _ (hops_one (n:=(i:Int)+1) (by omega) (by omega)),put_Int,put_Ints,htn,cell_Ints,Bool.false_eq_true,q4]
      have hnn:¬ ((gt W' ((i:Int)+1)).cost < 0):=by omega
      by_cases q5:(gt W' b).cost+linkC s ar b ((i:Int)+1) < (gt W' ((i:Int)+1)).cost
      ·rw [if_pos (.inr q5),hopsL_set hl' hi6,costL_set hl' hi6 (by show (i:Int)+1≠0;omega)]
       simp (disch:=omega) only [↓pq,↓pj,ps,pz,↓reduceIte,reduceLE,reduceLT,reduceEq,reduceGT,reduceGE,reduceAdd,reduceSub,reduceMul,reduceNeg,G_s_WaysIn_l0,G_s_WaysIn_l1,G_s_WaysIn_l2,G_s_WaysIn_l3,G_s_WaysIn_l4,hi',hM,q1,hd1,q2,hc1,hc2,hp1,hp2,hbt',eq_true q3,hA0 _ (hops_one (n:=(i:Int)+1) (by omega) (by omega)),put_Int,put_Ints,htn,cell_Ints,Bool.false_eq_true,q4,hnn,q5]
      rw [if_neg (by rintro (h1 | h1);exact q4 h1;exact q5 h1)]
      by_cases q6:(gt W' b).cost+linkC s ar b ((i:Int)+1)=(gt W' ((i:Int)+1)).cost
      ·have htog:tog (gt W' ((i:Int)+1)) ⟨(i:Int)+1,(gt W' b).cost+linkC s ar b ((i:Int)+1),[(i:Int)+1]⟩=⟨(gt W' ((i:Int)+1)).to,(gt W' ((i:Int)+1)).cost,uni (gt W' ((i:Int)+1)).hops ([(i:Int)+1])⟩:=by
        unfold tog
        rw [if_neg (by show ¬ ((gt W' b).cost+_ > _);omega),if_neg (by show ¬ (_ > (gt W' b).cost+_);omega)]
       rw [if_pos q6,htog,hopsL_set hl' hi6,costL_same (w:=⟨(gt W' ((i:Int)+1)).to,(gt W' ((i:Int)+1)).cost,uni (gt W' ((i:Int)+1)).hops [(i:Int)+1]⟩) hl' hi6 q4 q4 rfl]
       have hu:=e_s_l06Add (gt W' ((i:Int)+1)).hops ([(i:Int)+1]) (by omega) (by simp)
       have q5':¬ ((gt W' ((i:Int)+1)).cost < (gt W' ((i:Int)+1)).cost):=by omega
       simp (disch:=omega) only [↓pq,↓pj,ps,pz,↓reduceIte,reduceLE,reduceLT,reduceEq,reduceGT,reduceGE,reduceAdd,reduceSub,reduceMul,reduceNeg,G_s_WaysIn_l0,G_s_WaysIn_l1,G_s_WaysIn_l2,G_s_WaysIn_l3,G_s_WaysIn_l4,hi',hM,q1,hd1,q2,hc1,hc2,hp1,hp2,hbt',eq_true q3,hA0 _ (hops_one (n:=(i:Int)+1) (by omega) (by omega)),put_Int,put_Ints,htn,cell_Ints,Bool.false_eq_true,q4,hnn,q5,q5',q6,hu]
      ·rw [if_neg q6]
       simp (disch:=omega) only [↓pq,↓pj,ps,pz,↓reduceIte,reduceLE,reduceLT,reduceEq,reduceGT,reduceGE,reduceAdd,reduceSub,reduceMul,reduceNeg,G_s_WaysIn_l0,G_s_WaysIn_l1,G_s_WaysIn_l2,G_s_WaysIn_l3,G_s_WaysIn_l4,hi',hM,q1,hd1,q2,hc1,hc2,hp1,hp2,hbt',eq_true q3,hA0 _ (hops_one (n:=(i:Int)+1) (by omega) (by omega)),put_Int,put_Ints,htn,cell_Ints,Bool.false_eq_true,q4,hnn,q5,q6]
     ·skip
      have hsp:spStep s ar fr b W' i=(if (gt W' ((i:Int)+1)).to=0∨(gt W' b).cost+linkC s ar b ((i:Int)+1) < (gt W' ((i:Int)+1)).cost then W'.set (i+1) ⟨(i:Int)+1,(gt W' b).cost+linkC s ar b ((i:Int)+1),(gt W' b).hops⟩
       else if (gt W' b).cost+linkC s ar b ((i:Int)+1)=(gt W' ((i:Int)+1)).cost then W'.set (i+1) (tog (gt W' ((i:Int)+1)) ⟨(i:Int)+1,(gt W' b).cost+linkC s ar b ((i:Int)+1),(gt W' b).hops⟩) else W'):=by
       unfold spStep
       rw [if_neg (by rintro (h1 | h1);exact q1 h1;exact q2' h1),if_neg q3]
      rw [hsp]
      by_cases q4:(gt W' ((i:Int)+1)).to=0
      ·rw [if_pos (.inl q4),hopsL_set hl' hi6,costL_set hl' hi6 (by show (i:Int)+1≠0;omega)]
       simp (disch:=omega) only [↓pq,↓pj,ps,pz,↓reduceIte,reduceLE,reduceLT,reduceEq,reduceGT,reduceGE,reduceAdd,reduceSub,reduceMul,reduceNeg,G_s_WaysIn_l0,G_s_WaysIn_l1,G_s_WaysIn_l2,G_s_WaysIn_l3,G_s_WaysIn_l4,hi',hM,q1,hd1,q2,hc1,hc2,hp1,hp2,hbt',eq_false q3,hA0 _ hhb,put_Int,put_Ints,htn,cell_Ints,Bool.false_eq_true,q4]
      have hnn:¬ ((gt W' ((i:Int)+1)).cost < 0):=by omega
      by_cases q5:(gt W' b).cost+linkC s ar b ((i:Int)+1) < (gt W' ((i:Int)+1)).cost
      ·rw [if_pos (.inr q5),hopsL_set hl' hi6,costL_set hl' hi6 (by show (i:Int)+1≠0;omega)]
       simp (disch:=omega) only [↓pq,↓pj,ps,pz,↓reduceIte,reduceLE,reduceLT,reduceEq,reduceGT,reduceGE,reduceAdd,reduceSub,reduceMul,reduceNeg,G_s_WaysIn_l0,G_s_WaysIn_l1,G_s_WaysIn_l2,G_s_WaysIn_l3,G_s_WaysIn_l4,hi',hM,q1,hd1,q2,hc1,hc2,hp1,hp2,hbt',eq_false q3,hA0 _ hhb,put_Int,put_Ints,htn,cell_Ints,Bool.false_eq_true,q4,hnn,q5]
      rw [if_neg (by rintro (h1 | h1);exact q4 h1;exact q5 h1)]
      by_cases q6:(gt W' b).cost+linkC s ar b ((i:Int)+1)=(gt W' ((i:Int)+1)).cost
      ·have htog:tog (gt W' ((i:Int)+1)) ⟨(i:Int)+1,(gt W' b).cost+linkC s ar b ((i:Int)+1),(gt W' b).hops⟩=⟨(gt W' ((i:Int)+1)).to,(gt W' ((i:Int)+1)).cost,uni (gt W' ((i:Int)+1)).hops ((gt W' b).hops)⟩:=by
        unfold tog
        rw [if_neg (by show ¬ ((gt W' b).cost+_ > _);omega),if_neg (by show ¬ (_ > (gt W' b).cost+_);omega)]
       rw [if_pos q6,htog,hopsL_set hl' hi6,costL_same (w:=⟨(gt W' ((i:Int)+1)).to,(gt W' ((i:Int)+1)).cost,uni (gt W' ((i:Int)+1)).hops (gt W' b).hops⟩) hl' hi6 q4 q4 rfl]
       have hu:=e_s_l06Add (gt W' ((i:Int)+1)).hops ((gt W' b).hops) (by omega) (by omega)
       have q5':¬ ((gt W' ((i:Int)+1)).cost < (gt W' ((i:Int)+1)).cost):=by omega
       simp (disch:=omega) only [↓pq,↓pj,ps,pz,↓reduceIte,reduceLE,reduceLT,reduceEq,reduceGT,reduceGE,reduceAdd,reduceSub,reduceMul,reduceNeg,G_s_WaysIn_l0,G_s_WaysIn_l1,G_s_WaysIn_l2,G_s_WaysIn_l3,G_s_WaysIn_l4,hi',hM,q1,hd1,q2,hc1,hc2,hp1,hp2,hbt',eq_false q3,hA0 _ hhb,put_Int,put_Ints,htn,cell_Ints,Bool.false_eq_true,q4,hnn,q5,q5',q6,hu]
      ·rw [if_neg q6]
       simp (disch:=omega) only [↓pq,↓pj,ps,pz,↓reduceIte,reduceLE,reduceLT,reduceEq,reduceGT,reduceGE,reduceAdd,reduceSub,reduceMul,reduceNeg,G_s_WaysIn_l0,G_s_WaysIn_l1,G_s_WaysIn_l2,G_s_WaysIn_l3,G_s_WaysIn_l4,hi',hM,q1,hd1,q2,hc1,hc2,hp1,hp2,hbt',eq_false q3,hA0 _ hhb,put_Int,put_Ints,htn,cell_Ints,Bool.false_eq_true,q4,hnn,q5,q6]
   ·intro W' w _
    simp (disch:=omega) only [↓pq,↓pj,ps,pz,↓reduceIte,reduceLE,reduceLT,reduceEq,reduceGT,reduceGE,reduceAdd,reduceSub,reduceMul,reduceNeg,G_s_WaysIn_l0,G_s_WaysIn_l1,G_s_WaysIn_l2,G_s_WaysIn_l3,G_s_WaysIn_l4,]
 refine iter_uptox 6 (fun i c=>[ii (i+1),.l (c.map eInt)]) (fun c i=>c.set (i+1) (-1)) (fun c=>if c=[0,-1,-1,-1,-1,-1,-1] then some [T.l ((known (dij s ar fr 6 (W0 fr) [])).map eWay)] else none) (List.replicate 7 0) (fun i c=>c=(List.range i).foldl (fun c i=>c.set (i+1) (-1)) (List.replicate 7 0)) rfl (rounds_lt (by omega)) rfl ?_ ?_ |>.trans (by rfl)
 ·intro i c hi hc
  have hl:c.length=7:=by rw [hc,foldl_len (fun M x=>by simp)];simp
  have hi':(i:Int)+1≤6:=by omega
  have htn:((i:Int)+1).toNat=i+1:=by omega
  refine ⟨by rw [List.range_succ,List.foldl_append,← hc];rfl,fun q=>?_⟩
  simp (disch:=omega) only [↓pq,↓pj,ps,pz,↓reduceIte,reduceLE,reduceLT,reduceEq,reduceGT,reduceGE,reduceAdd,reduceSub,reduceMul,reduceNeg,G_s_WaysIn_l0,G_s_WaysIn_l1,G_s_WaysIn_l2,G_s_WaysIn_l3,G_s_WaysIn_l4,hi',put_Int,htn]
 ·intro c q hc
  have hc:c=[0,-1,-1,-1,-1,-1,-1]:=hc
  rw [hc,if_pos rfl]
  have hlt:fr < (([0,-1,-1,-1,-1,-1,-1]:List Int).length:Int):=by simp;omega
  have hput:Prim.ev (.put true 1 0 1) [.l (([0,-1,-1,-1,-1,-1,-1]:List Int).map eInt),ii fr,ii 0]=some (.l ((costL (W0 fr)).map eInt)):=by
   rw [put_Int (by omega) hlt]
   congr 3
   unfold costL
   rw [show ([0,-1,-1,-1,-1,-1,-1]:List Int)=tab (fun i=>if i=0 then 0 else -1) from rfl,set_tab]
   refine tab_congr fun i hi=>?_
   rw [W0_gt h6' (by omega) (by omega)]
   by_cases e:i=fr.toNat
   ·have e1:fr=(i:Int):=by omega
    have e2:¬ (i=0):=by omega
    rw [if_pos e,if_neg e2,if_pos e1]
    show (0:Int)=if fr=0 then -1 else 0
    rw [if_neg (by omega)]
   ·have e1:¬ (fr=(i:Int)):=by omega
    rw [if_neg e,if_neg e1]
    by_cases e0:i=0
    ·rw [if_pos e0,if_pos e0]
    ·rw [if_neg e0,if_neg e0];rfl
  have hh:(List.replicate 7 ([]:List Int))=hopsL (W0 fr):=by
   show tab (fun _=>[])=_
   unfold hopsL
   refine tab_congr fun i hi=>?_
   rw [W0_gt h6' (by omega) (by omega)]
   split <;> rfl
  have hdn:List.replicate 7 false=doneL []:=rfl
  simp (disch:=omega) only [↓pq,↓pj,ps,pz,↓reduceIte,reduceLE,reduceLT,reduceEq,reduceGT,reduceGE,reduceAdd,reduceSub,reduceMul,reduceNeg,G_s_WaysIn_l0,G_s_WaysIn_l1,G_s_WaysIn_l2,G_s_WaysIn_l3,G_s_WaysIn_l4,hput,hh,hdn]
  refine iter_dij2 (s:=s) hs (ar:=ar) (fr:=fr) (fun r W D=>[ii r,.l ((hopsL W).map eInts),.l ((doneL D).map eBool),.l ((costL W).map eInt)]) (out:=fun W=>some [T.l ((known W).map eWay)]) ?_ ?_ ?_ 6 (W0 fr) [] rounds (DInv.start h6') rfl (by unfold rounds;omega)
  ·intro W D q hI hD hb
   rw [sel W D q hI hD,if_pos hb]
  ·intro W D q hI hD hb
   rw [sel W D q hI hD,if_neg hb]
  ·intro W D q hI hb
   have l1:=doneL_len D
   have l2:=costL_len W
   have l3:=hopsL_len W
   simp (disch:=omega) only [↓pq,↓pj,ps,pz,↓reduceIte,reduceLE,reduceLT,reduceEq,reduceGT,reduceGE,reduceAdd,reduceSub,reduceMul,reduceNeg,G_s_WaysIn_l0,G_s_WaysIn_l1,G_s_WaysIn_l2,G_s_WaysIn_l3,G_s_WaysIn_l4,]
   refine (iter_uptox 6 (fun i c=>[.l (c.map eWay),ii (i+1)]) (fun c i=>if D.contains ((i:Int)+1)=true then c++[⟨(i:Int)+1,(gt W ((i:Int)+1)).cost,(gt W ((i:Int)+1)).hops⟩] else c) (fun c=>some [T.l (c.map eWay)]) [] (fun i c=>c.length≤i) rfl (rounds_lt (by omega)) (by simp) ?_ ?_).trans (by rw [foldl_keep (fun i:Nat=>D.contains ((i:Int)+1)) (fun i:Nat=>(⟨(i:Int)+1,(gt W ((i:Int)+1)).cost,(gt W ((i:Int)+1)).hops⟩:Way)),List.nil_append,← known_tab hI hb])
   ·intro i c hi hc
    refine ⟨by split <;> (try simp) <;> omega,fun w=>?_⟩
    have hi':(i:Int)+1≤6:=by omega
    have hd1:=doneL_gt D (v:=(i:Int)+1) (by omega) hi'
    have hc1:=costL_gt W (v:=(i:Int)+1) (by omega) hi'
    have hp1:=hopsL_gt W (v:=(i:Int)+1) (by omega) hi'
    have hhl:=hops_len (hI.ok.hops ((i:Int)+1) (by omega) (by omega))
    cases hcd:D.contains ((i:Int)+1) with
    | false=>simp (disch:=omega) only [↓pq,↓pj,ps,pz,↓reduceIte,reduceLE,reduceLT,reduceEq,reduceGT,reduceGE,reduceAdd,reduceSub,reduceMul,reduceNeg,G_s_WaysIn_l0,G_s_WaysIn_l1,G_s_WaysIn_l2,G_s_WaysIn_l3,G_s_WaysIn_l4,hi',hd1,hcd,Bool.false_eq_true]
    | true =>
     have ht:=(hI.mem _ (List.contains_iff_mem.1 hcd)).2
     simp (disch:=omega) only [↓pq,↓pj,ps,pz,↓reduceIte,reduceLE,reduceLT,reduceEq,reduceGT,reduceGE,reduceAdd,reduceSub,reduceMul,reduceNeg,G_s_WaysIn_l0,G_s_WaysIn_l1,G_s_WaysIn_l2,G_s_WaysIn_l3,G_s_WaysIn_l4,hi',hd1,hcd,hc1,hp1,ht,cell_Ints]
   ·intro c w hc
    simp (disch:=omega) only [↓pq,↓pj,ps,pz,↓reduceIte,reduceLE,reduceLT,reduceEq,reduceGT,reduceGE,reduceAdd,reduceSub,reduceMul,reduceNeg,G_s_WaysIn_l0,G_s_WaysIn_l1,G_s_WaysIn_l2,G_s_WaysIn_l3,G_s_WaysIn_l4,]
end Go.Proofs.YtbhplkilhknciaaDoorC

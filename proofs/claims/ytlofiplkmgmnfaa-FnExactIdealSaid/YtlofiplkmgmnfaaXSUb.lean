/- The ideal store, where 'instead' is gone into. Conditions: none. -/
import Derived.Test.YtlofiplkmgmnfaaXSU
namespace Go.Proofs.YtlofiplkmgmnfaaC
open Int (reduceLE reduceLT reduceEq reduceGT reduceGE reduceAdd reduceSub reduceMul reduceNeg)
set_option linter.unusedVariables false
set_option linter.unusedSimpArgs false
theorem instead_run (t2:T) (s:List Rcd) (n:Int) (ls:List Link) (v:Int) (h:ascB (linkOk n) linkLt ls=true) (hl:ls.length≤12) (hs:Sto 24 s) (hv:1≤v∧v≤6) (k:List T→Option (List T)) :
  iter (G_i_Ideal_l2 rounds F_i_AreasOf F_i_Beyond F_i_put (ii n) (.l (ls.map eLink)) t2 (.l (s.map eRcd)) (ii v) (ii (s.length:Int)) k) rounds [.l [],ii 0,.l (s.map eRcd)]=k [.l ((insteadR s (areasOf ls v) v).map eRcd)]:=by
 have hsl:=hs.len
 have hsn:=hs.near
 have hal:=areasOf_len ls v
 have ham:=fun a ha=>areasOf_mem (ls:=ls) (v:=v) (a:=a) ha
 generalize hA:areasOf ls v=A at hal ham
 refine iter_filterx s (fun i c=>[.l (c.map eRcd),ii i,.l (gneL eRcd s i)]) (notOf v) rfl (rounds_lt (by omega)) ?_ ?_
 ·intro i c hi hc q
  have:=hsn.gt (n:=i) (by omega) hi
  have hi':i < s.length:=by omega
  unfold notOf
  simp (disch:=omega) only [↓pq,↓pj,ps,pz,↓reduceIte,reduceLE,reduceLT,reduceEq,reduceGT,reduceGE,reduceAdd,reduceSub,reduceMul,reduceNeg,G_i_Ideal_l0,G_i_Ideal_l1,G_i_Ideal_l2,G_i_Ideal_l3,G_i_Ideal_l4,G_i_Ideal_l5,G_i_Ideal_l6,G_i_Ideal_l7,hi,ev_tk1 (enc:=eRcd) (fun _=>rfl) hi']
  by_cases k1:(gt s (i:Int)).kind=2
  ·by_cases k2:(gt s (i:Int)).owner=v
   ·simp [k1,k2]
   ·simp [k1,k2]
  ·simp [k1]
 ·intro q
  simp (disch:=omega) only [↓pq,↓pj,ps,pz,↓reduceIte,reduceLE,reduceLT,reduceEq,reduceGT,reduceGE,reduceAdd,reduceSub,reduceMul,reduceNeg,G_i_Ideal_l0,G_i_Ideal_l1,G_i_Ideal_l2,G_i_Ideal_l3,G_i_Ideal_l4,G_i_Ideal_l5,G_i_Ideal_l6,G_i_Ideal_l7,e_i_AreasOf _ _ _ _ _ h hl,hA]
  refine (iter_foldlx A (fun j c=>[.l (c.map eRcd),ii j]) (fun c a=>putAll seq1 c (beyondR s A v a)) (fun c=>k [T.l (c.map eRcd)]) (s.filter (notOf v)) (fun _ c=>Sto 24 c) rfl (rounds_lt (by omega)) (hs.filter _) ?_ ?_).trans (by rw [putAll_flat])
  ·intro j c hj hc
   have hb:=fun r hr=>beyondR_ok (s:=s) (A:=A) hv (ham _ (gt_mem (l:=A) (n:=(j:Int)) (by omega) hj)) (r:=r) hr
   refine ⟨hc.puts hb,fun q=>?_⟩
   simp (disch:=omega) only [↓pq,↓pj,ps,pz,↓reduceIte,reduceLE,reduceLT,reduceEq,reduceGT,reduceGE,reduceAdd,reduceSub,reduceMul,reduceNeg,G_i_Ideal_l0,G_i_Ideal_l1,G_i_Ideal_l2,G_i_Ideal_l3,G_i_Ideal_l4,G_i_Ideal_l5,G_i_Ideal_l6,G_i_Ideal_l7,hj,e_i_Beyond s A v _ (show s.length≤1048576 by omega) hsn (show A.length≤1048576 by omega)]
   have hbl:=beyondR_len s A v (gt A (j:Int))
   generalize beyondR s A v (gt A (j:Int))=B at hb hbl
   refine (iter_foldlx B (fun i c=>[.l (c.map eRcd),ii i,.l (B.map eRcd)]) (fun c r=>putR c (seq1 r)) (fun c=>q [.l (c.map eRcd),ii ((j:Int)+1)]) c (fun _ c=>Sto 24 c) rfl (rounds_lt (by omega)) hc ?_ ?_)
   ·intro i d hi hd
    have hr:=hb _ (gt_mem (l:=B) (n:=(i:Int)) (by omega) hi)
    refine ⟨hd.put' hr.1 hr.2,fun q=>?_⟩
    have hdl:=hd.len
    have hp:=e_i_put d (gt B (i:Int)).area (gt B (i:Int)).kind (gt B (i:Int)).owner (gt B (i:Int)).key 1 (gt B (i:Int)).near (gt B (i:Int)).cost (gt B (i:Int)).far (by omega) hd.near hd.1 (by have h6:(seq1 (gt B (i:Int))).near.length≤6:=rec_near hr.1;exact Nat.le_trans h6 (by omega))
    simp (disch:=omega) only [↓pq,↓pj,ps,pz,↓reduceIte,reduceLE,reduceLT,reduceEq,reduceGT,reduceGE,reduceAdd,reduceSub,reduceMul,reduceNeg,G_i_Ideal_l0,G_i_Ideal_l1,G_i_Ideal_l2,G_i_Ideal_l3,G_i_Ideal_l4,G_i_Ideal_l5,G_i_Ideal_l6,G_i_Ideal_l7,hi,hp]
    rfl
   ·intro d q' hd
    simp (disch:=omega) only [↓pq,↓pj,ps,pz,↓reduceIte,reduceLE,reduceLT,reduceEq,reduceGT,reduceGE,reduceAdd,reduceSub,reduceMul,reduceNeg,G_i_Ideal_l0,G_i_Ideal_l1,G_i_Ideal_l2,G_i_Ideal_l3,G_i_Ideal_l4,G_i_Ideal_l5,G_i_Ideal_l6,G_i_Ideal_l7,]
  ·intro c q hc
   simp (disch:=omega) only [↓pq,↓pj,ps,pz,↓reduceIte,reduceLE,reduceLT,reduceEq,reduceGT,reduceGE,reduceAdd,reduceSub,reduceMul,reduceNeg,G_i_Ideal_l0,G_i_Ideal_l1,G_i_Ideal_l2,G_i_Ideal_l3,G_i_Ideal_l4,G_i_Ideal_l5,G_i_Ideal_l6,G_i_Ideal_l7,]
theorem e_i_Ideal (n:Int) (ls:List Link) (ts:List Thing) (L U:List Bool) (h1:ls.length≤1048576) (h2:ts.length≤1048576):F_i_Ideal [ii n,.l (ls.map eLink),.l (ts.map eThing),.l (L.map eBool),.l (U.map eBool)]=some (if idealB ⟨n,ls,ts⟩ L U=true then [.l ((ideal ⟨n,ls,ts⟩ L U).map eRcd),bb true] else [.l [],bb false]):=by
 by_cases hi:idealB ⟨n,ls,ts⟩ L U=true
 ·rw [if_pos hi]
  obtain ⟨hN,hL,hU⟩:=idealB_iff hi
  obtain ⟨n1,hl,ht,hA,hT⟩:=netOk_all hN
  simp only at hL hU n1 hl ht hA hT
  have hL':L.length=ls.length:=by omega
  have hfin:¬ ((n.toNat:Int)+1≤n):=by omega
  rw [g_i_Ideal];simp (disch:=omega) only [↓pq,↓pj,ps,pz,↓reduceIte,reduceLE,reduceLT,reduceEq,reduceGT,reduceGE,reduceAdd,reduceSub,reduceMul,reduceNeg,G_i_Ideal_l0,G_i_Ideal_l1,G_i_Ideal_l2,G_i_Ideal_l3,G_i_Ideal_l4,G_i_Ideal_l5,G_i_Ideal_l6,G_i_Ideal_l7,G_i_Ideal,e_i_NetOk _ _ _ h1 h2,hN,hL,hU]
  refine iter_uptox n.toNat (fun i c=>[.l (c.map eRcd),ii (i+1)]) (node1 ls L U) (fun c=>some [T.l (((List.range 3).foldl (round1 n ls U) (ts.foldl (thing1 U) c)).map eRcd),bb true]) [] (fun _ c=>Sto 0 c) rfl (rounds_lt (by omega)) Sto.nil ?_ ?_
  ·intro i c hi hc
   have hi':(i:Int)+1≤n:=by omega
   refine ⟨node1_sto hA n1.2 (by omega) hc,fun q=>?_⟩
   have hal:=areasOf_len ls ((i:Int)+1)
   have ham:=fun a ha=>areasOf_mem (ls:=ls) (v:=(i:Int)+1) (a:=a) ha
   simp (disch:=omega) only [↓pq,↓pj,ps,pz,↓reduceIte,reduceLE,reduceLT,reduceEq,reduceGT,reduceGE,reduceAdd,reduceSub,reduceMul,reduceNeg,G_i_Ideal_l0,G_i_Ideal_l1,G_i_Ideal_l2,G_i_Ideal_l3,G_i_Ideal_l4,G_i_Ideal_l5,G_i_Ideal_l6,G_i_Ideal_l7,hi',e_i_AreasOf _ _ _ _ _ hA hl]
   unfold node1
   generalize areasOf ls ((i:Int)+1)=A at hal ham
   by_cases hu:gt U ((i:Int)+1 - 1)=true
   ·rw [if_pos hu]
    refine iter_foldlx A (fun j c=>[.l (c.map eRcd),ii j]) (fun c a=>putR c (rNode ls L U ((i:Int)+1) a)) (fun c=>q [.l (c.map eRcd),ii ((i:Int)+1+1)]) c (fun _ c=>Sto 0 c) rfl (rounds_lt (by omega)) hc ?_ ?_
    ·intro j d hj hd
     have hr:=rNode_ok hA (L:=L) (U:=U) (v:=(i:Int)+1) (by omega) (ham _ (gt_mem (l:=A) (n:=(j:Int)) (by omega) hj))
     refine ⟨hd.put' hr (by show (1:Int)≠3;decide),fun q'=>?_⟩
     have hdl:=hd.len
     have hnl:=nearU_len ls L U ((i:Int)+1) (gt A (j:Int))
     have hp:=e_i_put d (gt A (j:Int)) 1 ((i:Int)+1) 0 1 (nearU ls L U ((i:Int)+1) (gt A (j:Int))) 0 false (by omega) hd.near hd.1 (by omega)
     simp (disch:=omega) only [↓pq,↓pj,ps,pz,↓reduceIte,reduceLE,reduceLT,reduceEq,reduceGT,reduceGE,reduceAdd,reduceSub,reduceMul,reduceNeg,G_i_Ideal_l0,G_i_Ideal_l1,G_i_Ideal_l2,G_i_Ideal_l3,G_i_Ideal_l4,G_i_Ideal_l5,G_i_Ideal_l6,G_i_Ideal_l7,hj,hu,hU,e_i_nearUp _ _ _ _ _ _ _ hA hl hL' hU,hp]
     rfl
    ·intro d q' hd
     simp (disch:=omega) only [↓pq,↓pj,ps,pz,↓reduceIte,reduceLE,reduceLT,reduceEq,reduceGT,reduceGE,reduceAdd,reduceSub,reduceMul,reduceNeg,G_i_Ideal_l0,G_i_Ideal_l1,G_i_Ideal_l2,G_i_Ideal_l3,G_i_Ideal_l4,G_i_Ideal_l5,G_i_Ideal_l6,G_i_Ideal_l7,]
   ·rw [if_neg hu]
    refine (iter_foldlx A (fun j c=>[.l (c.map eRcd),ii j]) (fun c _=>c) (fun c=>q [.l (c.map eRcd),ii ((i:Int)+1+1)]) c (fun _ c=>Sto 0 c) rfl (rounds_lt (by omega)) hc ?_ ?_).trans (by rw [foldl_same])
    ·intro j d hj hd
     refine ⟨hd,fun q'=>?_⟩
     simp (disch:=omega) only [↓pq,↓pj,ps,pz,↓reduceIte,reduceLE,reduceLT,reduceEq,reduceGT,reduceGE,reduceAdd,reduceSub,reduceMul,reduceNeg,G_i_Ideal_l0,G_i_Ideal_l1,G_i_Ideal_l2,G_i_Ideal_l3,G_i_Ideal_l4,G_i_Ideal_l5,G_i_Ideal_l6,G_i_Ideal_l7,hj,hu,hU,Bool.false_eq_true]
    ·intro d q' hd
     simp (disch:=omega) only [↓pq,↓pj,ps,pz,↓reduceIte,reduceLE,reduceLT,reduceEq,reduceGT,reduceGE,reduceAdd,reduceSub,reduceMul,reduceNeg,G_i_Ideal_l0,G_i_Ideal_l1,G_i_Ideal_l2,G_i_Ideal_l3,G_i_Ideal_l4,G_i_Ideal_l5,G_i_Ideal_l6,G_i_Ideal_l7,]
  ·intro c q hc
   simp (disch:=omega) only [↓pq,↓pj,ps,pz,↓reduceIte,reduceLE,reduceLT,reduceEq,reduceGT,reduceGE,reduceAdd,reduceSub,reduceMul,reduceNeg,G_i_Ideal_l0,G_i_Ideal_l1,G_i_Ideal_l2,G_i_Ideal_l3,G_i_Ideal_l4,G_i_Ideal_l5,G_i_Ideal_l6,G_i_Ideal_l7,hfin]
   refine iter_foldlx ts (fun j c=>[.l (c.map eRcd),ii j]) (thing1 U) (fun c=>some [T.l (((List.range 3).foldl (round1 n ls U) c).map eRcd),bb true]) c (fun j c=>Sto j c) rfl (rounds_lt (by omega)) hc ?_ ?_
   ·intro j d hj hd
    have hto:=thing_of hT (gt_mem (l:=ts) (n:=(j:Int)) (by omega) hj)
    refine ⟨thing1_sto n1.2 hto hd,fun q=>?_⟩
    have hdl:=hd.len
    have hp:=e_i_put d 9 3 (gt ts (j:Int)).owner (gt ts (j:Int)).key 1 [] (gt ts (j:Int)).cost (gt ts (j:Int)).far (by omega) hd.near hd.1 (by simp)
    rw [List.map_nil] at hp
    unfold thing1
    by_cases hu:gt U ((gt ts (j:Int)).owner - 1)=true
    ·rw [if_pos hu]
     simp (disch:=omega) only [↓pq,↓pj,ps,pz,↓reduceIte,reduceLE,reduceLT,reduceEq,reduceGT,reduceGE,reduceAdd,reduceSub,reduceMul,reduceNeg,G_i_Ideal_l0,G_i_Ideal_l1,G_i_Ideal_l2,G_i_Ideal_l3,G_i_Ideal_l4,G_i_Ideal_l5,G_i_Ideal_l6,G_i_Ideal_l7,hj,hu,hU,hp]
     rfl
    ·rw [if_neg hu]
     simp (disch:=omega) only [↓pq,↓pj,ps,pz,↓reduceIte,reduceLE,reduceLT,reduceEq,reduceGT,reduceGE,reduceAdd,reduceSub,reduceMul,reduceNeg,G_i_Ideal_l0,G_i_Ideal_l1,G_i_Ideal_l2,G_i_Ideal_l3,G_i_Ideal_l4,G_i_Ideal_l5,G_i_Ideal_l6,G_i_Ideal_l7,hj,hu,hU,Bool.false_eq_true]
   ·intro d q hd
    simp (disch:=omega) only [↓pq,↓pj,ps,pz,↓reduceIte,reduceLE,reduceLT,reduceEq,reduceGT,reduceGE,reduceAdd,reduceSub,reduceMul,reduceNeg,G_i_Ideal_l0,G_i_Ideal_l1,G_i_Ideal_l2,G_i_Ideal_l3,G_i_Ideal_l4,G_i_Ideal_l5,G_i_Ideal_l6,G_i_Ideal_l7,]
    refine iter_uptox 3 (fun i c=>[.l (c.map eRcd),ii i]) (round1 n ls U) (fun c=>some [T.l (c.map eRcd),bb true]) d (fun _ c=>Sto 4 c) rfl (rounds_lt (by omega)) (hd.mono (by omega)) ?_ ?_
    ·intro r d hr hd
     have hr':(r:Int) < 3:=by omega
     refine ⟨round1_sto n1.2 hd,fun q=>?_⟩
     simp (disch:=omega) only [↓pq,↓pj,ps,pz,↓reduceIte,reduceLE,reduceLT,reduceEq,reduceGT,reduceGE,reduceAdd,reduceSub,reduceMul,reduceNeg,G_i_Ideal_l0,G_i_Ideal_l1,G_i_Ideal_l2,G_i_Ideal_l3,G_i_Ideal_l4,G_i_Ideal_l5,G_i_Ideal_l6,G_i_Ideal_l7,hr']
     unfold round1
     refine iter_uptox n.toNat (fun i c=>[.l (c.map eRcd),ii (i+1)]) (bord1 ls U) (fun c=>q [.l (c.map eRcd),ii ((r:Int)+1)]) d (fun _ c=>Sto 4 c) rfl (rounds_lt (by omega)) hd ?_ ?_
     ·intro i e hi he
      have hi':(i:Int)+1≤n:=by omega
      refine ⟨bord1_sto n1.2 (by omega) he,fun q'=>?_⟩
      have hin:=instead_run (.l (ts.map eThing)) e n ls ((i:Int)+1) hA hl (he.mono (by omega)) (by omega)
      unfold bord1
      by_cases hu:gt U ((i:Int)+1 - 1)=true
      ·rw [if_pos hu]
       cases hb:border ls ((i:Int)+1) with
       | true=>simp (disch:=omega) only [↓pq,↓pj,ps,pz,↓reduceIte,reduceLE,reduceLT,reduceEq,reduceGT,reduceGE,reduceAdd,reduceSub,reduceMul,reduceNeg,G_i_Ideal_l0,G_i_Ideal_l1,G_i_Ideal_l2,G_i_Ideal_l3,G_i_Ideal_l4,G_i_Ideal_l5,G_i_Ideal_l6,G_i_Ideal_l7,hi',hu,hU,e_i_Border _ _ _ _ _ hA hl,hb,hin]
       | false=>simp (disch:=omega) only [↓pq,↓pj,ps,pz,↓reduceIte,reduceLE,reduceLT,reduceEq,reduceGT,reduceGE,reduceAdd,reduceSub,reduceMul,reduceNeg,G_i_Ideal_l0,G_i_Ideal_l1,G_i_Ideal_l2,G_i_Ideal_l3,G_i_Ideal_l4,G_i_Ideal_l5,G_i_Ideal_l6,G_i_Ideal_l7,hi',hu,hU,e_i_Border _ _ _ _ _ hA hl,hb,Bool.false_eq_true]
      ·rw [if_neg hu]
       simp (disch:=omega) only [↓pq,↓pj,ps,pz,↓reduceIte,reduceLE,reduceLT,reduceEq,reduceGT,reduceGE,reduceAdd,reduceSub,reduceMul,reduceNeg,G_i_Ideal_l0,G_i_Ideal_l1,G_i_Ideal_l2,G_i_Ideal_l3,G_i_Ideal_l4,G_i_Ideal_l5,G_i_Ideal_l6,G_i_Ideal_l7,hi',hu,hU,Bool.false_eq_true]
     ·intro e q' he
      simp (disch:=omega) only [↓pq,↓pj,ps,pz,↓reduceIte,reduceLE,reduceLT,reduceEq,reduceGT,reduceGE,reduceAdd,reduceSub,reduceMul,reduceNeg,G_i_Ideal_l0,G_i_Ideal_l1,G_i_Ideal_l2,G_i_Ideal_l3,G_i_Ideal_l4,G_i_Ideal_l5,G_i_Ideal_l6,G_i_Ideal_l7,hfin]
    ·intro d q hd
     simp (disch:=omega) only [↓pq,↓pj,ps,pz,↓reduceIte,reduceLE,reduceLT,reduceEq,reduceGT,reduceGE,reduceAdd,reduceSub,reduceMul,reduceNeg,G_i_Ideal_l0,G_i_Ideal_l1,G_i_Ideal_l2,G_i_Ideal_l3,G_i_Ideal_l4,G_i_Ideal_l5,G_i_Ideal_l6,G_i_Ideal_l7,]
 ·rw [if_neg hi]
  rw [g_i_Ideal];simp (disch:=omega) only [↓pq,↓pj,ps,pz,↓reduceIte,reduceLE,reduceLT,reduceEq,reduceGT,reduceGE,reduceAdd,reduceSub,reduceMul,reduceNeg,G_i_Ideal_l0,G_i_Ideal_l1,G_i_Ideal_l2,G_i_Ideal_l3,G_i_Ideal_l4,G_i_Ideal_l5,G_i_Ideal_l6,G_i_Ideal_l7,G_i_Ideal,e_i_NetOk _ _ _ h1 h2]
  cases hN:netOk ⟨n,ls,ts⟩ with
  | false=>simp (disch:=omega) only [↓pq,↓pj,ps,pz,↓reduceIte,reduceLE,reduceLT,reduceEq,reduceGT,reduceGE,reduceAdd,reduceSub,reduceMul,reduceNeg,G_i_Ideal_l0,G_i_Ideal_l1,G_i_Ideal_l2,G_i_Ideal_l3,G_i_Ideal_l4,G_i_Ideal_l5,G_i_Ideal_l6,G_i_Ideal_l7,Bool.false_eq_true]
  | true =>
   by_cases hL:(L.length:Int)=ls.length
   ·by_cases hU:(U.length:Int)=n
    ·exact absurd (by unfold idealB;rw [hN];simp [hL,hU]) hi
    ·simp (disch:=omega) only [↓pq,↓pj,ps,pz,↓reduceIte,reduceLE,reduceLT,reduceEq,reduceGT,reduceGE,reduceAdd,reduceSub,reduceMul,reduceNeg,G_i_Ideal_l0,G_i_Ideal_l1,G_i_Ideal_l2,G_i_Ideal_l3,G_i_Ideal_l4,G_i_Ideal_l5,G_i_Ideal_l6,G_i_Ideal_l7,hL,hU]
   ·simp (disch:=omega) only [↓pq,↓pj,ps,pz,↓reduceIte,reduceLE,reduceLT,reduceEq,reduceGT,reduceGE,reduceAdd,reduceSub,reduceMul,reduceNeg,G_i_Ideal_l0,G_i_Ideal_l1,G_i_Ideal_l2,G_i_Ideal_l3,G_i_Ideal_l4,G_i_Ideal_l5,G_i_Ideal_l6,G_i_Ideal_l7,hL]
end Go.Proofs.YtlofiplkmgmnfaaC

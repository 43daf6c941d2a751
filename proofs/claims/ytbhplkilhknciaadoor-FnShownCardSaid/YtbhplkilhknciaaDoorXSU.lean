/- The ideal store and the routes out of it, by both programs. Conditions: none. -/
import Derived.Test.YtbhplkilhknciaaDoorXST
namespace Go.Proofs.YtbhplkilhknciaaDoorC
open Int (reduceLE reduceLT reduceEq reduceGT reduceGE reduceAdd reduceSub reduceMul reduceNeg)
set_option linter.unusedVariables false
set_option linter.unusedSimpArgs false
def rNode (ls:List Link) (L U:List Bool) (v a:Int):Rcd:=⟨a,1,v,0,1,nearU ls L U v a,0,false⟩
def rThing (t:Thing):Rcd:=⟨9,3,t.owner,t.key,1,[],t.cost,t.far⟩
theorem rNode_ok {n:Int} {ls:List Link} (h:ascB (linkOk n) linkLt ls=true) {L U:List Bool} {v a:Int} (hv:1≤v∧v≤6) (ha:0≤a∧a≤2):recOk (rNode ls L U v a)=true:=by
 unfold recOk
 simp only [rNode,Bool.and_eq_true,inB_iff]
 refine ⟨⟨hv,by omega⟩,?_⟩
 simp [inB_iff,ha,nearU_ok h]
theorem thing_of {n:Int} {ts:List Thing} (h:ascB (thingOk n) thingLt ts=true) {t:Thing} (ht:t∈ts):(1≤t.owner∧t.owner≤n)∧(1≤t.key∧t.key≤9)∧(1≤t.cost∧t.cost≤1000):=by
 obtain ⟨i,hi,rfl⟩:=List.mem_iff_getElem.1 ht
 have:=allB_iff.1 h i hi
 rw [gt_elem hi] at this
 simp only [Bool.and_eq_true,thingOk,inB_iff] at this
 omega
theorem rThing_ok {n:Int} (hn:n≤6) {t:Thing} (h:(1≤t.owner∧t.owner≤n)∧(1≤t.key∧t.key≤9)∧(1≤t.cost∧t.cost≤1000)):recOk (rThing t)=true:=by
 unfold recOk
 simp only [rThing,Bool.and_eq_true,inB_iff]
 refine ⟨⟨by omega,by omega⟩,?_⟩
 simp [inB_iff,h]
def node1 (ls:List Link) (L U:List Bool) (c:List Rcd) (i:Nat):List Rcd :=
 if gt U ((i:Int)+1 - 1)=true then (areasOf ls ((i:Int)+1)).foldl (fun c a=>putR c (rNode ls L U ((i:Int)+1) a)) c else c
def thing1 (U:List Bool) (c:List Rcd) (t:Thing):List Rcd:=if gt U (t.owner - 1)=true then putR c (rThing t) else c
def bord1 (ls:List Link) (U:List Bool) (c:List Rcd) (i:Nat):List Rcd :=
 if gt U ((i:Int)+1 - 1)=true then (if border ls ((i:Int)+1)=true then insteadR c (areasOf ls ((i:Int)+1)) ((i:Int)+1) else c) else c
def round1 (n:Int) (ls:List Link) (U:List Bool) (c:List Rcd) (_:Nat):List Rcd:=(List.range n.toNat).foldl (bord1 ls U) c
def ideal (x:Net) (L U:List Bool):List Rcd:=(List.range 3).foldl (round1 x.n x.links U) (x.things.foldl (thing1 U) ((List.range x.n.toNat).foldl (node1 x.links L U) []))
def idealB (x:Net) (L U:List Bool):Bool:=netOk x && (decide ((L.length:Int)=x.links.length) && decide ((U.length:Int)=x.n))
theorem idealB_iff {x:Net} {L U:List Bool} (h:idealB x L U=true):netOk x=true∧(L.length:Int)=x.links.length∧(U.length:Int)=x.n:=by
 unfold idealB at h
 simpa only [Bool.and_eq_true,decide_eq_true_eq] using h
theorem netOk_all {x:Net} (h:netOk x=true):(1≤x.n∧x.n≤6)∧x.links.length≤12∧x.things.length≤4∧ascB (linkOk x.n) linkLt x.links=true∧ascB (thingOk x.n) thingLt x.things=true:=by
 unfold netOk at h
 simp only [Bool.and_eq_true,decide_eq_true_eq,inB_iff] at h
 exact ⟨h.1.1.1.1,h.1.1.1.2,h.1.1.2,h.1.2,h.2⟩
theorem sto_foldl {α:Type} {k:Nat} {g:List Rcd→α→List Rcd}:∀ {l:List α} {c:List Rcd},(∀ a∈l,∀ c,Sto k c→Sto k (g c a))→Sto k c→Sto k (l.foldl g c)
 | [],c,_,h=>h
 | a :: l,c,hg,h=>by
  rw [List.foldl_cons]
  exact sto_foldl (fun b hb=>hg b (.tail _ hb)) (hg a (.head _) c h)
section
variable {n:Int} {ls:List Link} {L U:List Bool} (h:ascB (linkOk n) linkLt ls=true) (hn:n≤6)
include h hn
theorem node1_sto {c:List Rcd} {i:Nat} (hi:(i:Int) < n) (hc:Sto 0 c):Sto 0 (node1 ls L U c i):=by
 unfold node1
 split
 ·refine sto_foldl (fun a ha c hc=>?_) hc
  exact hc.put' (rNode_ok h (by omega) (areasOf_mem ha)) (by show (1:Int)≠3;decide)
 ·exact hc
omit h in
theorem thing1_sto {k:Nat} {c:List Rcd} {t:Thing} (ht:(1≤t.owner∧t.owner≤n)∧(1≤t.key∧t.key≤9)∧(1≤t.cost∧t.cost≤1000)) (hc:Sto k c):Sto (k+1) (thing1 U c t):=by
 unfold thing1
 split
 ·exact hc.put (rThing_ok hn ht)
 ·exact hc.mono (by omega)
omit h in
theorem bord1_sto {k:Nat} {c:List Rcd} {i:Nat} (hi:(i:Int) < n) (hc:Sto k c):Sto k (bord1 ls U c i):=by
 unfold bord1
 split
 ·split
  ·exact hc.instead (fun a ha=>areasOf_mem ha) (by omega)
  ·exact hc
 ·exact hc
omit h in
theorem round1_sto {k:Nat} {c:List Rcd} {r:Nat} (hc:Sto k c):Sto k (round1 n ls U c r) :=
 sto_foldl (fun i hi c hc=>bord1_sto hn (by have:=List.mem_range.1 hi;omega) hc) hc
omit h in
theorem things_sto:∀ {ts:List Thing} {k:Nat} {c:List Rcd},(∀ t∈ts,(1≤t.owner∧t.owner≤n)∧(1≤t.key∧t.key≤9)∧(1≤t.cost∧t.cost≤1000))→Sto k c→Sto (k+ts.length) (ts.foldl (thing1 U) c)
 | [],k,c,_,hc=>hc
 | t :: ts,k,c,ht,hc=>by
  rw [List.foldl_cons,List.length_cons]
  exact (things_sto (fun x hx=>ht x (.tail _ hx)) (thing1_sto hn (ht t (.head _)) hc)).mono (by omega)
end
theorem ideal_sto {x:Net} {L U:List Bool} (h:netOk x=true):Sto 4 (ideal x L U):=by
 obtain ⟨h1,h2,h3,h4,h5⟩:=netOk_all h
 unfold ideal
 refine sto_foldl (fun r _ c hc=>round1_sto h1.2 hc) ?_
 refine (things_sto (k:=0) h1.2 (fun t ht=>thing_of h5 ht) ?_).mono (by omega)
 exact sto_foldl (fun i hi c hc=>node1_sto h4 h1.2 (by have:=List.mem_range.1 hi;omega) hc) Sto.nil
theorem nearU_range {n:Int} {ls:List Link} (h:ascB (linkOk n) linkLt ls=true) (hn:n≤6) (L U:List Bool) (v a:Int) :
  ((List.range n.toNat).filter fun u:Nat=>decide (openC ls L v ((u:Int)+1) a > 0) && gt U ((u:Int)+1 - 1)).map (fun u:Nat=>(⟨(u:Int)+1,openC ls L v ((u:Int)+1) a⟩:Near))=nearU ls L U v a:=by
 have e:(upto n.toNat).filter (fun x=>decide (openC ls L v x a > 0) && gt U (x - 1))=six.filter (fun x=>decide (openC ls L v x a > 0) && gt U (x - 1)):=by
  refine asc_ext ((upto_asc _).filter _) (six_asc.filter _) fun x=>?_
  rw [List.mem_filter,List.mem_filter,mem_upto,mem_six]
  constructor
  ·rintro ⟨h1,h2⟩
   exact ⟨by omega,h2⟩
  ·rintro ⟨h1,h2⟩
   refine ⟨?_,h2⟩
   rw [Bool.and_eq_true,decide_eq_true_eq] at h2
   obtain ⟨y,hy,e⟩:=(costTo_pos h v x a).1 (openC_bnd h h2.1).1
   have:=link_of h hy
   rw [joins_iff] at e
   omega
 unfold nearU
 rw [← e]
 unfold upto
 rw [List.filter_map,List.map_map]
 rfl
theorem nearU_fold {n:Int} {ls:List Link} (h:ascB (linkOk n) linkLt ls=true) (hn:n≤6) (L U:List Bool) (v a:Int) :
  (List.range n.toNat).foldl (fun (e:List Near) (u:Nat)=>if (decide (openC ls L v ((u:Int)+1) a > 0) && gt U ((u:Int)+1 - 1))=true then e++[(⟨(u:Int)+1,openC ls L v ((u:Int)+1) a⟩:Near)] else e) []=nearU ls L U v a:=by
 rw [foldl_keep (fun u:Nat=>decide (openC ls L v ((u:Int)+1) a > 0) && gt U ((u:Int)+1 - 1)) (fun u:Nat=>(⟨(u:Int)+1,openC ls L v ((u:Int)+1) a⟩:Near)),List.nil_append]
 exact nearU_range h hn L U v a
theorem e_s_Ideal (n:Int) (ls:List Link) (ts:List Thing) (L U:List Bool) (h1:ls.length≤1048576) (h2:ts.length≤1048576):F_s_Ideal [ii n,.l (ls.map eLink),.l (ts.map eThing),.l (L.map eBool),.l (U.map eBool)]=some (if idealB ⟨n,ls,ts⟩ L U=true then [.l ((ideal ⟨n,ls,ts⟩ L U).map eRcd),bb true] else [.l [],bb false]):=by
 by_cases hi:idealB ⟨n,ls,ts⟩ L U=true
 ·rw [if_pos hi]
  obtain ⟨hN,hL,hU⟩:=idealB_iff hi
  obtain ⟨n1,hl,ht,hA,hT⟩:=netOk_all hN
  simp only at hL hU n1 hl ht hA hT
  have hL':L.length=ls.length:=by omega
  have hfin:¬ ((n.toNat:Int)+1≤n):=by omega
  rw [g_s_Ideal];simp (disch:=omega) only [↓pq,↓pj,ps,pz,↓reduceIte,reduceLE,reduceLT,reduceEq,reduceGT,reduceGE,reduceAdd,reduceSub,reduceMul,reduceNeg,G_s_Ideal_l0,G_s_Ideal_l1,G_s_Ideal_l2,G_s_Ideal_l3,G_s_Ideal_l4,G_s_Ideal_l5,G_s_Ideal,e_s_NetOk _ _ _ h1 h2,hN,hL,hU]
  refine iter_uptox n.toNat (fun i c=>[.l (c.map eRcd),ii (i+1)]) (node1 ls L U) (fun c=>some [T.l (((List.range 3).foldl (round1 n ls U) (ts.foldl (thing1 U) c)).map eRcd),bb true]) [] (fun _ c=>Sto 0 c) rfl (rounds_lt (by omega)) Sto.nil ?_ ?_
  ·intro i c hi hc
   have hi':(i:Int)+1≤n:=by omega
   refine ⟨node1_sto hA n1.2 (by omega) hc,fun q=>?_⟩
   have hal:=areasOf_len ls ((i:Int)+1)
   have ham:=fun a ha=>areasOf_mem (ls:=ls) (v:=(i:Int)+1) (a:=a) ha
   simp (disch:=omega) only [↓pq,↓pj,ps,pz,↓reduceIte,reduceLE,reduceLT,reduceEq,reduceGT,reduceGE,reduceAdd,reduceSub,reduceMul,reduceNeg,G_s_Ideal_l0,G_s_Ideal_l1,G_s_Ideal_l2,G_s_Ideal_l3,G_s_Ideal_l4,G_s_Ideal_l5,hi',e_s_AreasOf _ _ _ _ _ hA hl]
   unfold node1
   generalize areasOf ls ((i:Int)+1)=A at hal ham
   by_cases hu:gt U ((i:Int)+1 - 1)=true
   ·rw [if_pos hu]
    refine iter_foldlx A (fun j c=>[.l (c.map eRcd),ii j]) (fun c a=>putR c (rNode ls L U ((i:Int)+1) a)) (fun c=>q [.l (c.map eRcd),ii ((i:Int)+1+1)]) c (fun _ c=>Sto 0 c) rfl (rounds_lt (by omega)) hc ?_ ?_
    ·intro j d hj hd
     have hr:=rNode_ok hA (L:=L) (U:=U) (v:=(i:Int)+1) (by omega) (ham _ (gt_mem (l:=A) (n:=(j:Int)) (by omega) hj))
     refine ⟨hd.put' hr (by show (1:Int)≠3;decide),fun q'=>?_⟩
     have hdl:=hd.len
     simp (disch:=omega) only [↓pq,↓pj,ps,pz,↓reduceIte,reduceLE,reduceLT,reduceEq,reduceGT,reduceGE,reduceAdd,reduceSub,reduceMul,reduceNeg,G_s_Ideal_l0,G_s_Ideal_l1,G_s_Ideal_l2,G_s_Ideal_l3,G_s_Ideal_l4,G_s_Ideal_l5,hj,hu,hU]
     unfold rNode
     rw [← nearU_fold hA n1.2]
     refine iter_uptox n.toNat (fun u e=>[ii (u+1),.l (e.map eNear)]) (fun e u=>if (decide (openC ls L ((i:Int)+1) ((u:Int)+1) (gt A (j:Int)) > 0) && gt U ((u:Int)+1 - 1))=true then e++[(⟨(u:Int)+1,openC ls L ((i:Int)+1) ((u:Int)+1) (gt A (j:Int))⟩:Near)] else e) (fun e=>q' [.l ((putR d ⟨gt A (j:Int),1,(i:Int)+1,0,1,e,0,false⟩).map eRcd),ii ((j:Int)+1)]) [] (fun u e=>e.length≤u) rfl (rounds_lt (by omega)) (by simp) ?_ ?_
     ·intro u e hu he
      have hu':(u:Int)+1≤n:=by omega
      refine ⟨by split;(· simp;omega);(· omega),fun s=>?_⟩
      have ho:=e_s_l13Open (ii n) (.l (ts.map eThing)) ls L ((i:Int)+1) ((u:Int)+1) (gt A (j:Int)) n hA hl hL'
      generalize openC ls L ((i:Int)+1) ((u:Int)+1) (gt A (j:Int))=z at ho
      by_cases k1:z > 0
      ·cases k2:gt U ((u:Int)+1 - 1) with
       | true=>simp (disch:=omega) only [↓pq,↓pj,ps,pz,↓reduceIte,reduceLE,reduceLT,reduceEq,reduceGT,reduceGE,reduceAdd,reduceSub,reduceMul,reduceNeg,G_s_Ideal_l0,G_s_Ideal_l1,G_s_Ideal_l2,G_s_Ideal_l3,G_s_Ideal_l4,G_s_Ideal_l5,hu',hj,hU,ho,k1,k2,decide_true,Bool.true_and]
       | false=>simp (disch:=omega) only [↓pq,↓pj,ps,pz,↓reduceIte,reduceLE,reduceLT,reduceEq,reduceGT,reduceGE,reduceAdd,reduceSub,reduceMul,reduceNeg,G_s_Ideal_l0,G_s_Ideal_l1,G_s_Ideal_l2,G_s_Ideal_l3,G_s_Ideal_l4,G_s_Ideal_l5,hu',hj,hU,ho,k1,k2,decide_true,Bool.true_and,Bool.false_eq_true]
      ·simp (disch:=omega) only [↓pq,↓pj,ps,pz,↓reduceIte,reduceLE,reduceLT,reduceEq,reduceGT,reduceGE,reduceAdd,reduceSub,reduceMul,reduceNeg,G_s_Ideal_l0,G_s_Ideal_l1,G_s_Ideal_l2,G_s_Ideal_l3,G_s_Ideal_l4,G_s_Ideal_l5,hu',hj,hU,ho,k1,decide_false,Bool.false_and,Bool.false_eq_true]
     ·intro e s he
      have hp:=e_s_l05Put d (gt A (j:Int)) 1 ((i:Int)+1) 0 1 e 0 false (by omega) hd.near (by omega)
      simp (disch:=omega) only [↓pq,↓pj,ps,pz,↓reduceIte,reduceLE,reduceLT,reduceEq,reduceGT,reduceGE,reduceAdd,reduceSub,reduceMul,reduceNeg,G_s_Ideal_l0,G_s_Ideal_l1,G_s_Ideal_l2,G_s_Ideal_l3,G_s_Ideal_l4,G_s_Ideal_l5,hfin,hp]
    ·intro d q' hd
     simp (disch:=omega) only [↓pq,↓pj,ps,pz,↓reduceIte,reduceLE,reduceLT,reduceEq,reduceGT,reduceGE,reduceAdd,reduceSub,reduceMul,reduceNeg,G_s_Ideal_l0,G_s_Ideal_l1,G_s_Ideal_l2,G_s_Ideal_l3,G_s_Ideal_l4,G_s_Ideal_l5,]
   ·rw [if_neg hu]
    refine iter_while (fun k=>[.l (c.map eRcd),ii k]) 0 rfl (rounds_lt (by omega)) ?_ ?_
    ·intro k hk;omega
    ·intro s
     by_cases h0:(0:Int) < A.length
     ·simp (disch:=omega) only [↓pq,↓pj,ps,pz,↓reduceIte,reduceLE,reduceLT,reduceEq,reduceGT,reduceGE,reduceAdd,reduceSub,reduceMul,reduceNeg,G_s_Ideal_l0,G_s_Ideal_l1,G_s_Ideal_l2,G_s_Ideal_l3,G_s_Ideal_l4,G_s_Ideal_l5,h0,hu,hU,Bool.false_eq_true]
     ·simp (disch:=omega) only [↓pq,↓pj,ps,pz,↓reduceIte,reduceLE,reduceLT,reduceEq,reduceGT,reduceGE,reduceAdd,reduceSub,reduceMul,reduceNeg,G_s_Ideal_l0,G_s_Ideal_l1,G_s_Ideal_l2,G_s_Ideal_l3,G_s_Ideal_l4,G_s_Ideal_l5,h0]
  ·intro c q hc
   simp (disch:=omega) only [↓pq,↓pj,ps,pz,↓reduceIte,reduceLE,reduceLT,reduceEq,reduceGT,reduceGE,reduceAdd,reduceSub,reduceMul,reduceNeg,G_s_Ideal_l0,G_s_Ideal_l1,G_s_Ideal_l2,G_s_Ideal_l3,G_s_Ideal_l4,G_s_Ideal_l5,hfin]
   refine iter_foldlx ts (fun j c=>[.l (c.map eRcd),ii j]) (thing1 U) (fun c=>some [T.l (((List.range 3).foldl (round1 n ls U) c).map eRcd),bb true]) c (fun j c=>Sto j c) rfl (rounds_lt (by omega)) hc ?_ ?_
   ·intro j d hj hd
    have hto:=thing_of hT (gt_mem (l:=ts) (n:=(j:Int)) (by omega) hj)
    refine ⟨thing1_sto n1.2 hto hd,fun q=>?_⟩
    have hdl:=hd.len
    have hp:=e_s_l05Put d 9 3 (gt ts (j:Int)).owner (gt ts (j:Int)).key 1 [] (gt ts (j:Int)).cost (gt ts (j:Int)).far (by omega) hd.near (by simp)
    rw [List.map_nil] at hp
    unfold thing1
    by_cases hu:gt U ((gt ts (j:Int)).owner - 1)=true
    ·rw [if_pos hu]
     simp (disch:=omega) only [↓pq,↓pj,ps,pz,↓reduceIte,reduceLE,reduceLT,reduceEq,reduceGT,reduceGE,reduceAdd,reduceSub,reduceMul,reduceNeg,G_s_Ideal_l0,G_s_Ideal_l1,G_s_Ideal_l2,G_s_Ideal_l3,G_s_Ideal_l4,G_s_Ideal_l5,hj,hu,hU,hp]
     rfl
    ·rw [if_neg hu]
     simp (disch:=omega) only [↓pq,↓pj,ps,pz,↓reduceIte,reduceLE,reduceLT,reduceEq,reduceGT,reduceGE,reduceAdd,reduceSub,reduceMul,reduceNeg,G_s_Ideal_l0,G_s_Ideal_l1,G_s_Ideal_l2,G_s_Ideal_l3,G_s_Ideal_l4,G_s_Ideal_l5,hj,hu,hU,Bool.false_eq_true]
   ·intro d q hd
    simp (disch:=omega) only [↓pq,↓pj,ps,pz,↓reduceIte,reduceLE,reduceLT,reduceEq,reduceGT,reduceGE,reduceAdd,reduceSub,reduceMul,reduceNeg,G_s_Ideal_l0,G_s_Ideal_l1,G_s_Ideal_l2,G_s_Ideal_l3,G_s_Ideal_l4,G_s_Ideal_l5,]
    refine iter_uptox 3 (fun i c=>[.l (c.map eRcd),ii i]) (round1 n ls U) (fun c=>some [T.l (c.map eRcd),bb true]) d (fun _ c=>Sto 4 c) rfl (rounds_lt (by omega)) (hd.mono (by omega)) ?_ ?_
    ·intro r d hr hd
     have hr':(r:Int) < 3:=by omega
     refine ⟨round1_sto n1.2 hd,fun q=>?_⟩
     simp (disch:=omega) only [↓pq,↓pj,ps,pz,↓reduceIte,reduceLE,reduceLT,reduceEq,reduceGT,reduceGE,reduceAdd,reduceSub,reduceMul,reduceNeg,G_s_Ideal_l0,G_s_Ideal_l1,G_s_Ideal_l2,G_s_Ideal_l3,G_s_Ideal_l4,G_s_Ideal_l5,hr']
     unfold round1
     refine iter_uptox n.toNat (fun i c=>[.l (c.map eRcd),ii (i+1)]) (bord1 ls U) (fun c=>q [.l (c.map eRcd),ii ((r:Int)+1)]) d (fun _ c=>Sto 4 c) rfl (rounds_lt (by omega)) hd ?_ ?_
     ·intro i e hi he
      have hi':(i:Int)+1≤n:=by omega
      refine ⟨bord1_sto n1.2 (by omega) he,fun q'=>?_⟩
      have hin:=e_s_l13Beyond e (areasOf ls ((i:Int)+1)) ((i:Int)+1) (he.mono (by omega)) (areasOf_len ls _)
      unfold bord1
      by_cases hu:gt U ((i:Int)+1 - 1)=true
      ·rw [if_pos hu]
       cases hb:border ls ((i:Int)+1) with
       | true=>simp (disch:=omega) only [↓pq,↓pj,ps,pz,↓reduceIte,reduceLE,reduceLT,reduceEq,reduceGT,reduceGE,reduceAdd,reduceSub,reduceMul,reduceNeg,G_s_Ideal_l0,G_s_Ideal_l1,G_s_Ideal_l2,G_s_Ideal_l3,G_s_Ideal_l4,G_s_Ideal_l5,hi',hu,hU,e_s_Border _ _ _ _ _ hA hl,e_s_AreasOf _ _ _ _ _ hA hl,hb,hin]
       | false=>simp (disch:=omega) only [↓pq,↓pj,ps,pz,↓reduceIte,reduceLE,reduceLT,reduceEq,reduceGT,reduceGE,reduceAdd,reduceSub,reduceMul,reduceNeg,G_s_Ideal_l0,G_s_Ideal_l1,G_s_Ideal_l2,G_s_Ideal_l3,G_s_Ideal_l4,G_s_Ideal_l5,hi',hu,hU,e_s_Border _ _ _ _ _ hA hl,hb,Bool.false_eq_true]
      ·rw [if_neg hu]
       simp (disch:=omega) only [↓pq,↓pj,ps,pz,↓reduceIte,reduceLE,reduceLT,reduceEq,reduceGT,reduceGE,reduceAdd,reduceSub,reduceMul,reduceNeg,G_s_Ideal_l0,G_s_Ideal_l1,G_s_Ideal_l2,G_s_Ideal_l3,G_s_Ideal_l4,G_s_Ideal_l5,hi',hu,hU,Bool.false_eq_true]
     ·intro e q' he
      simp (disch:=omega) only [↓pq,↓pj,ps,pz,↓reduceIte,reduceLE,reduceLT,reduceEq,reduceGT,reduceGE,reduceAdd,reduceSub,reduceMul,reduceNeg,G_s_Ideal_l0,G_s_Ideal_l1,G_s_Ideal_l2,G_s_Ideal_l3,G_s_Ideal_l4,G_s_Ideal_l5,hfin]
    ·intro d q hd
     have hdl:=hd.len
     simp (disch:=omega) only [↓pq,↓pj,ps,pz,↓reduceIte,reduceLE,reduceLT,reduceEq,reduceGT,reduceGE,reduceAdd,reduceSub,reduceMul,reduceNeg,G_s_Ideal_l0,G_s_Ideal_l1,G_s_Ideal_l2,G_s_Ideal_l3,G_s_Ideal_l4,G_s_Ideal_l5,e_s_l04CopyList d (by omega) hd.near]
 ·rw [if_neg hi]
  rw [g_s_Ideal];simp (disch:=omega) only [↓pq,↓pj,ps,pz,↓reduceIte,reduceLE,reduceLT,reduceEq,reduceGT,reduceGE,reduceAdd,reduceSub,reduceMul,reduceNeg,G_s_Ideal_l0,G_s_Ideal_l1,G_s_Ideal_l2,G_s_Ideal_l3,G_s_Ideal_l4,G_s_Ideal_l5,G_s_Ideal,e_s_NetOk _ _ _ h1 h2]
  cases hN:netOk ⟨n,ls,ts⟩ with
  | false=>simp (disch:=omega) only [↓pq,↓pj,ps,pz,↓reduceIte,reduceLE,reduceLT,reduceEq,reduceGT,reduceGE,reduceAdd,reduceSub,reduceMul,reduceNeg,G_s_Ideal_l0,G_s_Ideal_l1,G_s_Ideal_l2,G_s_Ideal_l3,G_s_Ideal_l4,G_s_Ideal_l5,Bool.false_eq_true]
  | true =>
   by_cases hL:(L.length:Int)=ls.length
   ·by_cases hU:(U.length:Int)=n
    ·exact absurd (by unfold idealB;rw [hN];simp [hL,hU]) hi
    ·simp (disch:=omega) only [↓pq,↓pj,ps,pz,↓reduceIte,reduceLE,reduceLT,reduceEq,reduceGT,reduceGE,reduceAdd,reduceSub,reduceMul,reduceNeg,G_s_Ideal_l0,G_s_Ideal_l1,G_s_Ideal_l2,G_s_Ideal_l3,G_s_Ideal_l4,G_s_Ideal_l5,hL,hU]
   ·simp (disch:=omega) only [↓pq,↓pj,ps,pz,↓reduceIte,reduceLE,reduceLT,reduceEq,reduceGT,reduceGE,reduceAdd,reduceSub,reduceMul,reduceNeg,G_s_Ideal_l0,G_s_Ideal_l1,G_s_Ideal_l2,G_s_Ideal_l3,G_s_Ideal_l4,G_s_Ideal_l5,hL]
def trueRoutes (x:Net) (L U:List Bool) (v:Int):List Route :=
 if idealB x L U=true∧(1≤v∧v≤x.n)∧gt U (v - 1)=true then routesOf (ideal x L U) (areasOf x.links v) (border x.links v) v else []
theorem e_s_TrueRoutes (n:Int) (ls:List Link) (ts:List Thing) (L U:List Bool) (v:Int) (h1:ls.length≤1048576) (h2:ts.length≤1048576):F_s_TrueRoutes [ii n,.l (ls.map eLink),.l (ts.map eThing),.l (L.map eBool),.l (U.map eBool),ii v]=some [.l ((trueRoutes ⟨n,ls,ts⟩ L U v).map eRoute)]:=by
 have hI:=e_s_Ideal n ls ts L U h1 h2
 by_cases hi:idealB ⟨n,ls,ts⟩ L U=true
 ·rw [if_pos hi] at hI
  obtain ⟨hN,hL,hU⟩:=idealB_iff hi
  obtain ⟨n1,hl,ht,hA,hT⟩:=netOk_all hN
  have hs:=ideal_sto (L:=L) (U:=U) hN
  simp only at hL hU n1 hl ht hA hT
  have hsl:=hs.len
  have hal:=areasOf_len ls v
  rw [g_s_TrueRoutes];simp (disch:=omega) only [↓pq,↓pj,ps,pz,↓reduceIte,reduceLE,reduceLT,reduceEq,reduceGT,reduceGE,reduceAdd,reduceSub,reduceMul,reduceNeg,G_s_TrueRoutes,hI,hU,e_s_l01In]
  by_cases hv:1≤v∧v≤n
  ·rw [show inB v 1 n=true from inB_iff.2 hv]
   by_cases hu:gt U (v - 1)=true
   ·rw [show trueRoutes ⟨n,ls,ts⟩ L U v=_ from if_pos ⟨hi,hv,hu⟩]
    simp (disch:=omega) only [↓pq,↓pj,ps,pz,↓reduceIte,reduceLE,reduceLT,reduceEq,reduceGT,reduceGE,reduceAdd,reduceSub,reduceMul,reduceNeg,hU,hu,e_s_AreasOf _ _ _ _ _ hA hl,e_s_Border _ _ _ _ _ hA hl,e_s_RoutesOf (ideal ⟨n,ls,ts⟩ L U) (areasOf ls v) (border ls v) v (by omega) hs.near (hs.ok (by omega)) (by omega)]
   ·rw [show trueRoutes ⟨n,ls,ts⟩ L U v=_ from if_neg fun h=>hu h.2.2]
    simp (disch:=omega) only [↓pq,↓pj,ps,pz,↓reduceIte,reduceLE,reduceLT,reduceEq,reduceGT,reduceGE,reduceAdd,reduceSub,reduceMul,reduceNeg,hU,hu,Bool.false_eq_true]
    rfl
  ·rw [show trueRoutes ⟨n,ls,ts⟩ L U v=_ from if_neg fun h=>hv h.2.1,show inB v 1 n=false from by cases hb:inB v 1 n with | false=>rfl | true=>exact absurd (inB_iff.1 hb) hv]
   simp (disch:=omega) only [↓pq,↓pj,ps,pz,↓reduceIte,reduceLE,reduceLT,reduceEq,reduceGT,reduceGE,reduceAdd,reduceSub,reduceMul,reduceNeg,Bool.false_eq_true]
   rfl
 ·rw [if_neg hi] at hI
  rw [show trueRoutes ⟨n,ls,ts⟩ L U v=_ from if_neg fun h=>hi h.1]
  rw [g_s_TrueRoutes];simp (disch:=omega) only [↓pq,↓pj,ps,pz,↓reduceIte,reduceLE,reduceLT,reduceEq,reduceGT,reduceGE,reduceAdd,reduceSub,reduceMul,reduceNeg,G_s_TrueRoutes,hI,Bool.false_eq_true]
  rfl
end Go.Proofs.YtbhplkilhknciaaDoorC

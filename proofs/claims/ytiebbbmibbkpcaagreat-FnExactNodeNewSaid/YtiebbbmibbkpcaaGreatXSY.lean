/- What a node has to tell, by the other program. Conditions: none. -/
import Derived.Test.YtiebbbmibbkpcaaGreatXSX
namespace Go.Proofs.YtiebbbmibbkpcaaGreatC
open Int (reduceLE reduceLT reduceEq reduceGT reduceGE reduceAdd reduceSub reduceMul reduceNeg)
set_option linter.unusedVariables false
set_option linter.unusedSimpArgs false
def qc_ (x:Self):List Rcd:=zv_ seqZ x.store (ownL x)
theorem aJq_ (r:Rcd):(seqZ r).near=r.near:=by unfold seqZ;split <;> rfl
theorem aIi_ {x:Self} {k:Nat} (h:Fit k x.store) (hh:x.heard.length≤1048576):Fit (k+3) (qc_ x):=by
 have:=ahl_ x
 exact (Fit.puts (f:=seqZ) (fun r hr=>by rw [aJq_];exact ad0_ hh r hr) h).mono (by omega)
theorem aOc_ (a k o y s c:Int) (f:Bool):Prim.ev (.lit 8 [true,true,true,true,true,false,true,true]) [ii a,ii k,ii o,ii y,ii s,.l [],ii c,bb f]=some (.l ([(⟨a,k,o,y,s,[],c,f⟩:Rcd)].map eRcd)):=y3_ (by decide) rfl rfl
theorem aHy_ (id boot n:Int) (ls:List Link) (ts:List Thing) (hd:List Int) (st:List Rcd) (h1:ls.length≤1048576) (h2:ts.length≤1048576) (h3:hd.length≤1048576) (h4:st.length≤1048576) (h5:NearL st) (hk:xd_ ⟨id,boot,⟨n,ls,ts⟩,hd,st⟩=true) :
  qP_ [ii id,ii boot,ii n,.l (ls.map zn_),.l (ts.map zl_),.l (hd.map eInt),.l (st.map eRcd)]=some [.l ((xC_ ⟨id,boot,⟨n,ls,ts⟩,hd,st⟩ (qc_ ⟨id,boot,⟨n,ls,ts⟩,hd,st⟩)).map eRcd)]:=by
 obtain ⟨hN,hid,hbt,hev,hpr,hst⟩:=xf_ hk
 obtain ⟨n1,hl,ht,hA,hT⟩:=wS_ hN
 simp only at hid hbt hev hpr hst n1 hl ht hA hT
 have hfs:=jp_ hst h5
 have hol:=ahl_ ⟨id,boot,⟨n,ls,ts⟩,hd,st⟩
 have hon:=ad0_ (x:=⟨id,boot,⟨n,ls,ts⟩,hd,st⟩) h3
 have hbf:=aIi_ (x:=⟨id,boot,⟨n,ls,ts⟩,hd,st⟩) hfs h3
 have hsl:=hfs.len
 have hW:=amg_ st (ownL ⟨id,boot,⟨n,ls,ts⟩,hd,st⟩) (by omega) h5 hon
 rw [show zv_ seqZ st (ownL ⟨id,boot,⟨n,ls,ts⟩,hd,st⟩)=qc_ ⟨id,boot,⟨n,ls,ts⟩,hd,st⟩ from rfl] at hW
 generalize qc_ ⟨id,boot,⟨n,ls,ts⟩,hd,st⟩=S at hW hbf
 have hSl:=hbf.len
 have hal:=wN_ ls id
 rw [aHx_];simp (disch:=omega) only [↓pq,ps,pz,↓reduceIte,reduceLE,reduceLT,reduceEq,reduceGT,reduceGE,reduceAdd,reduceSub,reduceMul,reduceNeg,xl_,xh_,y2_,xm_,ah3_,aa8_ _ _ _ _ _ _ _ h1 h2 h3 h4 h5,hk,aes_ _ _ _ _ _ hA hl]
 have hT2:∀ (c:List Rcd),c.length≤100→NearL c→iter (y2_ rounds yA_ x6_ (ii id) (.l (ts.map zl_)) (.l [])) rounds [.l (c.map eRcd),ii 0]=some [.l ((zv_ same [] (c++(ts.filter fun t=>t.owner == id).map (xs_ id))).map eRcd)]:=by
  intro c hc hcn
  have e:(ts.filter fun t=>t.owner == id).map (xs_ id)=ts.foldl (fun c t=>if (t.owner == id)=true then c++[xs_ id t] else c) []:=by
   rw [w7_ (fun t:Thing=>t.owner == id) (xs_ id),List.nil_append]
  have e2:c++(ts.filter fun t=>t.owner == id).map (xs_ id)=ts.foldl (fun c t=>if (t.owner == id)=true then c++[xs_ id t] else c) c:=by
   rw [w7_ (fun t:Thing=>t.owner == id) (xs_ id)]
  rw [e2]
  refine zg_ ts (fun i c=>[.l (c.map eRcd),ii i]) (fun c t=>if (t.owner == id)=true then c++[xs_ id t] else c) (fun c=>some [T.l ((zv_ same [] c).map eRcd)]) c (fun i c=>c.length≤100+i∧NearL c) rfl (zb_ (by omega)) ⟨by omega,hcn⟩ ?_ ?_
  ·rintro i d hi ⟨hd1,hd2⟩
   by_cases k:(gt ts (i:Int)).owner=id
   ·have e:((gt ts (i:Int)).owner == id)=true:=by simpa using k
    rw [if_pos e]
    refine ⟨⟨by simp;omega,fun r hr=>?_⟩,fun q=>?_⟩
    ·rcases List.mem_append.1 hr with hr | hr
     ·exact hd2 r hr
     ·rw [List.mem_singleton] at hr;subst hr;simp [xs_]
    ·unfold xs_
     simp (disch:=omega) only [↓pq,ps,pz,↓reduceIte,reduceLE,reduceLT,reduceEq,reduceGT,reduceGE,reduceAdd,reduceSub,reduceMul,reduceNeg,xl_,xh_,y2_,xm_,hi,k,aOc_]
   ·have e:¬ ((gt ts (i:Int)).owner == id)=true:=by simpa using k
    rw [if_neg e]
    refine ⟨⟨by omega,hd2⟩,fun q=>?_⟩
    simp (disch:=omega) only [↓pq,ps,pz,↓reduceIte,reduceLE,reduceLT,reduceEq,reduceGT,reduceGE,reduceAdd,reduceSub,reduceMul,reduceNeg,xl_,xh_,y2_,xm_,hi,k]
  ·rintro d q ⟨hd1,hd2⟩
   simp (disch:=omega) only [↓pq,ps,pz,↓reduceIte,reduceLE,reduceLT,reduceEq,reduceGT,reduceGE,reduceAdd,reduceSub,reduceMul,reduceNeg,xl_,xh_,y2_,xm_,]
   refine zg_ d (fun i c=>[.l (c.map eRcd),ii i]) (fun c r=>putR c (same r)) (fun c=>some [T.l (c.map eRcd)]) [] (fun i c=>Fit i c) rfl (zb_ (by omega)) Fit.nil ?_ ?_
   ·intro i c hi hc
    have hnr:=hd2.gt (n:=i) (by omega) hi
    refine ⟨hc.put hnr,fun q=>?_⟩
    have hcl:=hc.len
    have hp:=aaz_ c (gt d (i:Int)).area (gt d (i:Int)).kind (gt d (i:Int)).owner (gt d (i:Int)).key (gt d (i:Int)).seq (gt d (i:Int)).near (gt d (i:Int)).cost (gt d (i:Int)).far (by omega) hc.near hnr
    simp (disch:=omega) only [↓pq,ps,pz,↓reduceIte,reduceLE,reduceLT,reduceEq,reduceGT,reduceGE,reduceAdd,reduceSub,reduceMul,reduceNeg,xl_,xh_,y2_,xm_,hi,hp]
    rfl
   ·intro c q hc
    have hcl:=hc.len
    simp (disch:=omega) only [↓pq,ps,pz,↓reduceIte,reduceLE,reduceLT,reduceEq,reduceGT,reduceGE,reduceAdd,reduceSub,reduceMul,reduceNeg,xl_,xh_,y2_,xm_,vI_ c (by omega) hc.near]
 have hO:ownL ⟨id,boot,⟨n,ls,ts⟩,hd,st⟩=(z1_ ls id).map (w4_ ls id hd):=rfl
 unfold xC_ beyL thL
 simp only
 rw [hO] at hol hon hW ⊢
 generalize z1_ ls id=A at hal hol hon hW
 refine zg_ A (fun j c=>[.l (c.map eRcd),ii j]) (fun c a=>c++[w4_ ls id hd a]) (fun _=>some [T.l ((zv_ same [] (A.map (w4_ ls id hd)++(if vO_ ls id=true then A.flatMap fun a=>beyondR S A id a else [])++(ts.filter fun t=>t.owner == id).map (xs_ id))).map eRcd)]) [] (fun j c=>c=(A.take j).map (w4_ ls id hd)) rfl (zb_ (by omega)) rfl ?_ ?_
 ·intro j c hj hc
  have hj':j < A.length:=by omega
  refine ⟨by rw [hc,List.take_add_one,List.map_append,List.getElem?_eq_getElem hj',zm_ hj'];simp,fun q=>?_⟩
  have hcl:c.length≤j:=by rw [hc,List.length_map];simp;omega
  have hN:=aB3_ id boot n ls (.l (ts.map zl_)) (.l (st.map eRcd)) hd (gt A (j:Int)) hl hev h3
  simp only [eRcd] at hN
  simp (disch:=omega) only [↓pq,ps,pz,↓reduceIte,reduceLE,reduceLT,reduceEq,reduceGT,reduceGE,reduceAdd,reduceSub,reduceMul,reduceNeg,xl_,xh_,y2_,xm_,hj,hN]
 ·intro c q hc
  rw [List.take_length] at hc
  rw [← hc] at hol hon hW ⊢
  cases hb:vO_ ls id with
  | false =>
   simp (disch:=omega) only [↓pq,ps,pz,↓reduceIte,reduceLE,reduceLT,reduceEq,reduceGT,reduceGE,reduceAdd,reduceSub,reduceMul,reduceNeg,xl_,xh_,y2_,xm_,ahp_ _ _ _ _ _ hA hl,hb,Bool.false_eq_true]
   rw [List.append_nil]
   exact hT2 c (by omega) hon
  | true =>
   simp only [if_true]
   simp (disch:=omega) only [↓pq,ps,pz,↓reduceIte,reduceLE,reduceLT,reduceEq,reduceGT,reduceGE,reduceAdd,reduceSub,reduceMul,reduceNeg,xl_,xh_,y2_,xm_,ahp_ _ _ _ _ _ hA hl,hb,hW]
   refine zg_ A (fun j d=>[.l (d.map eRcd),ii j]) (fun d a=>d++beyondR S A id a) (fun _=>some [T.l ((zv_ same [] (c++(A.flatMap fun a=>beyondR S A id a)++(ts.filter fun t=>t.owner == id).map (xs_ id))).map eRcd)]) c (fun j d=>d=c++(A.take j).flatMap fun a=>beyondR S A id a) rfl (zb_ (by omega)) (by simp) ?_ ?_
   ·intro j d hj hd'
    have hj':j < A.length:=by omega
    refine ⟨by rw [hd',List.take_add_one,List.flatMap_append,List.getElem?_eq_getElem hj',zm_ hj'];simp,fun q=>?_⟩
    have hbl:=jd_ S A id (gt A (j:Int))
    have hdl:d.length≤30:=by
     rw [hd',List.length_append]
     have:=anl_ (A.take j) (fun a=>beyondR S A id a) fun a=>jd_ S A id a
     have:(A.take j).length≤A.length:=by simp;omega
     omega
    simp (disch:=omega) only [↓pq,ps,pz,↓reduceIte,reduceLE,reduceLT,reduceEq,reduceGT,reduceGE,reduceAdd,reduceSub,reduceMul,reduceNeg,xl_,xh_,y2_,xm_,hj,aHz_ S A id _ (show S.length≤1048576 by omega) hbf.near (show A.length≤1048576 by omega)]
   ·intro d q hd'
    rw [List.take_length] at hd'
    have hdl:d.length≤30:=by
     rw [hd',List.length_append]
     have:=anl_ A (fun a=>beyondR S A id a) fun a=>jd_ S A id a
     omega
    have hdn:NearL d:=fun r hr=>by
     rw [hd'] at hr
     rcases List.mem_append.1 hr with hr | hr
     ·exact hon r hr
     ·obtain ⟨a,_,hr⟩:=List.mem_flatMap.1 hr
      exact ac9_ _ _ _ _ r hr
    rw [← hd']
    simp (disch:=omega) only [↓pq,ps,pz,↓reduceIte,reduceLE,reduceLT,reduceEq,reduceGT,reduceGE,reduceAdd,reduceSub,reduceMul,reduceNeg,xl_,xh_,y2_,xm_,]
    exact hT2 d (by omega) hdn
end Go.Proofs.YtiebbbmibbkpcaaGreatC

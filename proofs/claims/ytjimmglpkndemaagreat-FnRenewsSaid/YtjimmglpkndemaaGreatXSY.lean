/- What a node has to tell, by the other program. Conditions: none. -/
import Derived.Test.YtjimmglpkndemaaGreatXSX
namespace Go.Proofs.YtjimmglpkndemaaGreatC
open Int renaming reduceLE → Q0_, reduceLT → Q1_, reduceEq → Q2_, reduceGT → Q3_, reduceGE → Q4_, reduceAdd → Q5_, reduceSub → Q6_, reduceMul → Q7_, reduceNeg → Q8_
set_option linter.unusedVariables false
set_option linter.unusedSimpArgs false
def qd_ (x:Self):List Rcd:=zq_ seqZ x.store (ownL x)
theorem aF7_ (r:Rcd):(seqZ r).near=r.near:=by unfold seqZ;split <;> rfl
theorem aIu_ {x:Self} {k:Nat} (h:Fit k x.store) (hh:x.heard.length≤1048576):Fit (k+3) (qd_ x):=by
 have:=ahe_ x
 exact (Fit.puts (f:=seqZ) (fun r hr=>by rw [aF7_];exact ac6_ hh r hr) h).mono (by omega)
theorem aJu_ (a k o y s c:Int) (f:Bool):Prim.ev (.lit 8 [true,true,true,true,true,false,true,true]) [ii a,ii k,ii o,ii y,ii s,.l [],ii c,bb f]=some (.l ([(⟨a,k,o,y,s,[],c,f⟩:Rcd)].map eRcd)):=wb_ (by decide) rfl rfl
theorem aFe_ (id boot n:Int) (ls:List Link) (ts:List Thing) (hd:List Int) (st:List Rcd) (h1:ls.length≤1048576) (h2:ts.length≤1048576) (h3:hd.length≤1048576) (h4:st.length≤1048576) (h5:NearL st) (hk:xu_ ⟨id,boot,⟨n,ls,ts⟩,hd,st⟩=true) :
  qK_ [ii id,ii boot,ii n,.l (ls.map zr_),.l (ts.map zo_),.l (hd.map eInt),.l (st.map eRcd)]=some [.l ((y8_ ⟨id,boot,⟨n,ls,ts⟩,hd,st⟩ (qd_ ⟨id,boot,⟨n,ls,ts⟩,hd,st⟩)).map eRcd)]:=by
 obtain ⟨hN,hid,hbt,hev,hpr,hst⟩:=yU_ hk
 obtain ⟨n1,hl,ht,hA,hT⟩:=w0_ hN
 simp only at hid hbt hev hpr hst n1 hl ht hA hT
 have hfs:=q7_ hst h5
 have hol:=ahe_ ⟨id,boot,⟨n,ls,ts⟩,hd,st⟩
 have hon:=ac6_ (x:=⟨id,boot,⟨n,ls,ts⟩,hd,st⟩) h3
 have hbf:=aIu_ (x:=⟨id,boot,⟨n,ls,ts⟩,hd,st⟩) hfs h3
 have hsl:=hfs.len
 have hW:=ad5_ st (ownL ⟨id,boot,⟨n,ls,ts⟩,hd,st⟩) (by omega) h5 hon
 rw [show zq_ seqZ st (ownL ⟨id,boot,⟨n,ls,ts⟩,hd,st⟩)=qd_ ⟨id,boot,⟨n,ls,ts⟩,hd,st⟩ from rfl] at hW
 generalize qd_ ⟨id,boot,⟨n,ls,ts⟩,hd,st⟩=S at hW hbf
 have hSl:=hbf.len
 have hal:=wY_ ls id
 rw [aD3_];simp (disch:=omega) only [↓pq,↓pj,ps,pz,↓reduceIte,Q0_,Q1_,Q2_,Q3_,Q4_,Q5_,Q6_,Q7_,Q8_,xo_,xr_,xc_,xl_,agz_,ani_ _ _ _ _ _ _ _ h1 h2 h3 h4 h5,hk,jd_ _ _ _ _ _ hA hl]
 have hT2:∀ (c:List Rcd),c.length≤100→NearL c→iter (xc_ rounds z8_ yS_ (ii id) (.l (ts.map zo_)) (.l [])) rounds [.l (c.map eRcd),ii 0]=some [.l ((zq_ same [] (c++(ts.filter fun t=>t.owner == id).map (xt_ id))).map eRcd)]:=by
  intro c hc hcn
  have e:(ts.filter fun t=>t.owner == id).map (xt_ id)=ts.foldl (fun c t=>if (t.owner == id)=true then c++[xt_ id t] else c) []:=by
   rw [vR_ (fun t:Thing=>t.owner == id) (xt_ id),List.nil_append]
  have e2:c++(ts.filter fun t=>t.owner == id).map (xt_ id)=ts.foldl (fun c t=>if (t.owner == id)=true then c++[xt_ id t] else c) c:=by
   rw [vR_ (fun t:Thing=>t.owner == id) (xt_ id)]
  rw [e2]
  refine zj_ ts (fun i c=>[.l (c.map eRcd),ii i]) (fun c t=>if (t.owner == id)=true then c++[xt_ id t] else c) (fun c=>some [T.l ((zq_ same [] c).map eRcd)]) c (fun i c=>c.length≤100+i∧NearL c) rfl (za_ (by omega)) ⟨by omega,hcn⟩ ?_ ?_
  ·rintro i d hi ⟨hd1,hd2⟩
   by_cases k:(gt ts (i:Int)).owner=id
   ·have e:((gt ts (i:Int)).owner == id)=true:=by simpa using k
    rw [if_pos e]
    refine ⟨⟨by simp;omega,fun r hr=>?_⟩,fun q=>?_⟩
    ·rcases List.mem_append.1 hr with hr | hr
     ·exact hd2 r hr
     ·rw [List.mem_singleton] at hr;subst hr;simp [xt_]
    ·unfold xt_
     simp (disch:=omega) only [↓pq,↓pj,ps,pz,↓reduceIte,Q0_,Q1_,Q2_,Q3_,Q4_,Q5_,Q6_,Q7_,Q8_,xo_,xr_,xc_,xl_,hi,k,aJu_]
   ·have e:¬ ((gt ts (i:Int)).owner == id)=true:=by simpa using k
    rw [if_neg e]
    refine ⟨⟨by omega,hd2⟩,fun q=>?_⟩
    simp (disch:=omega) only [↓pq,↓pj,ps,pz,↓reduceIte,Q0_,Q1_,Q2_,Q3_,Q4_,Q5_,Q6_,Q7_,Q8_,xo_,xr_,xc_,xl_,hi,k]
  ·rintro d q ⟨hd1,hd2⟩
   simp (disch:=omega) only [↓pq,↓pj,ps,pz,↓reduceIte,Q0_,Q1_,Q2_,Q3_,Q4_,Q5_,Q6_,Q7_,Q8_,xo_,xr_,xc_,xl_,]
   refine zj_ d (fun i c=>[.l (c.map eRcd),ii i]) (fun c r=>putR c (same r)) (fun c=>some [T.l (c.map eRcd)]) [] (fun i c=>Fit i c) rfl (za_ (by omega)) Fit.nil ?_ ?_
   ·intro i c hi hc
    have hnr:=hd2.gt (n:=i) (by omega) hi
    refine ⟨hc.put hnr,fun q=>?_⟩
    have hcl:=hc.len
    have hp:=uL_ c (gt d (i:Int)).area (gt d (i:Int)).kind (gt d (i:Int)).owner (gt d (i:Int)).key (gt d (i:Int)).seq (gt d (i:Int)).near (gt d (i:Int)).cost (gt d (i:Int)).far (by omega) hc.near hnr
    simp (disch:=omega) only [↓pq,↓pj,ps,pz,↓reduceIte,Q0_,Q1_,Q2_,Q3_,Q4_,Q5_,Q6_,Q7_,Q8_,xo_,xr_,xc_,xl_,hi,hp]
    rfl
   ·intro c q hc
    have hcl:=hc.len
    simp (disch:=omega) only [↓pq,↓pj,ps,pz,↓reduceIte,Q0_,Q1_,Q2_,Q3_,Q4_,Q5_,Q6_,Q7_,Q8_,xo_,xr_,xc_,xl_,va_ c (by omega) hc.near]
 have hO:ownL ⟨id,boot,⟨n,ls,ts⟩,hd,st⟩=(zP_ ls id).map (ve_ ls id hd):=rfl
 unfold y8_ beyL thL
 simp only
 rw [hO] at hol hon hW ⊢
 generalize zP_ ls id=A at hal hol hon hW
 refine zj_ A (fun j c=>[.l (c.map eRcd),ii j]) (fun c a=>c++[ve_ ls id hd a]) (fun _=>some [T.l ((zq_ same [] (A.map (ve_ ls id hd)++(if v1_ ls id=true then A.flatMap fun a=>beyondR S A id a else [])++(ts.filter fun t=>t.owner == id).map (xt_ id))).map eRcd)]) [] (fun j c=>c=(A.take j).map (ve_ ls id hd)) rfl (za_ (by omega)) rfl ?_ ?_
 ·intro j c hj hc
  have hj':j < A.length:=by omega
  refine ⟨by rw [hc,List.take_add_one,List.map_append,List.getElem?_eq_getElem hj',zm_ hj'];simp,fun q=>?_⟩
  have hcl:c.length≤j:=by rw [hc,List.length_map];simp;omega
  have hN:=ayh_ id boot n ls (.l (ts.map zo_)) (.l (st.map eRcd)) hd (gt A (j:Int)) hl hev h3
  simp only [eRcd] at hN
  simp (disch:=omega) only [↓pq,↓pj,ps,pz,↓reduceIte,Q0_,Q1_,Q2_,Q3_,Q4_,Q5_,Q6_,Q7_,Q8_,xo_,xr_,xc_,xl_,hj,hN]
 ·intro c q hc
  rw [List.take_length] at hc
  rw [← hc] at hol hon hW ⊢
  cases hb:v1_ ls id with
  | false =>
   simp (disch:=omega) only [↓pq,↓pj,ps,pz,↓reduceIte,Q0_,Q1_,Q2_,Q3_,Q4_,Q5_,Q6_,Q7_,Q8_,xo_,xr_,xc_,xl_,aa0_ _ _ _ _ _ hA hl,hb,bF_]
   rw [List.append_nil]
   exact hT2 c (by omega) hon
  | true =>
   simp only [if_true]
   simp (disch:=omega) only [↓pq,↓pj,ps,pz,↓reduceIte,Q0_,Q1_,Q2_,Q3_,Q4_,Q5_,Q6_,Q7_,Q8_,xo_,xr_,xc_,xl_,aa0_ _ _ _ _ _ hA hl,hb,hW]
   refine zj_ A (fun j d=>[.l (d.map eRcd),ii j]) (fun d a=>d++beyondR S A id a) (fun _=>some [T.l ((zq_ same [] (c++(A.flatMap fun a=>beyondR S A id a)++(ts.filter fun t=>t.owner == id).map (xt_ id))).map eRcd)]) c (fun j d=>d=c++(A.take j).flatMap fun a=>beyondR S A id a) rfl (za_ (by omega)) (by simp) ?_ ?_
   ·intro j d hj hd'
    have hj':j < A.length:=by omega
    refine ⟨by rw [hd',List.take_add_one,List.flatMap_append,List.getElem?_eq_getElem hj',zm_ hj'];simp,fun q=>?_⟩
    have hbl:=vs_ S A id (gt A (j:Int))
    have hdl:d.length≤30:=by
     rw [hd',List.length_append]
     have:=abp_ (A.take j) (fun a=>beyondR S A id a) fun a=>vs_ S A id a
     have:(A.take j).length≤A.length:=by simp;omega
     omega
    simp (disch:=omega) only [↓pq,↓pj,ps,pz,↓reduceIte,Q0_,Q1_,Q2_,Q3_,Q4_,Q5_,Q6_,Q7_,Q8_,xo_,xr_,xc_,xl_,hj,aoq_ S A id _ (show S.length≤1048576 by omega) hbf.near (show A.length≤1048576 by omega)]
   ·intro d q hd'
    rw [List.take_length] at hd'
    have hdl:d.length≤30:=by
     rw [hd',List.length_append]
     have:=abp_ A (fun a=>beyondR S A id a) fun a=>vs_ S A id a
     omega
    have hdn:NearL d:=fun r hr=>by
     rw [hd'] at hr
     rcases List.mem_append.1 hr with hr | hr
     ·exact hon r hr
     ·obtain ⟨a,_,hr⟩:=List.mem_flatMap.1 hr
      exact abn_ _ _ _ _ r hr
    rw [← hd']
    simp (disch:=omega) only [↓pq,↓pj,ps,pz,↓reduceIte,Q0_,Q1_,Q2_,Q3_,Q4_,Q5_,Q6_,Q7_,Q8_,xo_,xr_,xc_,xl_,]
    exact hT2 d (by omega) hdn
end Go.Proofs.YtjimmglpkndemaaGreatC

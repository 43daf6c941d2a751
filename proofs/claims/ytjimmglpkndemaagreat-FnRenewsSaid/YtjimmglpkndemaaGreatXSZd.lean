/- What a node renews, by the other program; new nodes. Conditions: none. -/
import Derived.Test.YtjimmglpkndemaaGreatXSZc
namespace Go.Proofs.YtjimmglpkndemaaGreatC
open Int renaming reduceLE → Q0_, reduceLT → Q1_, reduceEq → Q2_, reduceGT → Q3_, reduceGE → Q4_, reduceAdd → Q5_, reduceSub → Q6_, reduceMul → Q7_, reduceNeg → Q8_
set_option linter.unusedVariables false
set_option linter.unusedSimpArgs false
def InvR (k:Nat) (c:List Rcd):Prop:=Fit k c∧∀ y∈c,1≤y.seq
theorem InvR.put {k:Nat} {c:List Rcd} (h:InvR k c) {r:Rcd} (hr:r.near.length≤1048576) (hq:1≤r.seq):InvR (k+1) (putR c r) :=
 ⟨h.1.put hr,fun y hy=>by
  rcases wA_ hy with rfl | hy
  ·exact hq
  ·exact h.2 y hy⟩
theorem InvR.mono {k k':Nat} {c:List Rcd} (h:InvR k c) (hk:k≤k'):InvR k' c:=⟨h.1.mono hk,h.2⟩
def finR (x:Self) (l:List Rcd):List T :=
 if l.all (fun r=>decide (r.seq≤100000))=true∧(zq_ same x.store l).length≤150 then yk_ { x with store:=zq_ same x.store l }++[.l (l.map eRcd)] else yk_ x++[.l []]
theorem aHn_ (x:Self) (h1:x.net.links.length≤1048576) (h2:x.net.things.length≤1048576) (h3:x.heard.length≤1048576) (h4:x.store.length≤1048576) (h5:NearL x.store) :
  jC_ [ii x.id,ii x.boot,ii x.net.n,.l (x.net.links.map zr_),.l (x.net.things.map zo_),.l (x.heard.map eInt),.l (x.store.map eRcd)]=some (yk_ (vf_ x).1++[.l ((vf_ x).2.map eRcd)]):=by
 have hS:=ani_ x.id x.boot x.net.n x.net.links x.net.things x.heard x.store h1 h2 h3 h4 h5
 rw [show (⟨x.id,x.boot,⟨x.net.n,x.net.links,x.net.things⟩,x.heard,x.store⟩:Self)=x from rfl] at hS
 have hC:=ayc_ x h1 h2 h3 h4 h5
 simp only [yk_] at hC
 cases hk:xu_ x with
 | false =>
  rw [hk] at hS
  rw [show vf_ x=(x,[]) from by unfold vf_;rw [if_neg (by rw [hk];decide)]]
  rw [aqm_];simp (disch:=omega) only [↓pq,↓pj,ps,pz,↓reduceIte,Q0_,Q1_,Q2_,Q3_,Q4_,Q5_,Q6_,Q7_,Q8_,yQ_,yP_,yO_,ac7_,hS,hC,bF_]
  rfl
 | true =>
  rw [hk] at hS
  rw [show vf_ x=v3_ x (y8_ x (byR x.store x.id (ownL x))) from by unfold vf_;rw [if_pos hk],← aFb_ hk]
  obtain ⟨hN,hid,hbt,hev,hpr,hst⟩:=yU_ hk
  obtain ⟨n1,hl,ht,hA,hT⟩:=w0_ hN
  have hW:=aFe_ x.id x.boot x.net.n x.net.links x.net.things x.heard x.store h1 h2 h3 h4 h5 hk
  rw [show (⟨x.id,x.boot,⟨x.net.n,x.net.links,x.net.things⟩,x.heard,x.store⟩:Self)=x from rfl] at hW
  have hWf:=ai0_ (x:=x) (qd_ x) ht h3
  generalize y8_ x (qd_ x)=W at hW hWf
  have hf:=q7_ hst h5
  have hfl:=hf.len
  have hWl:=hWf.len
  rw [show some (yk_ (v3_ x W).1++[T.l ((v3_ x W).2.map eRcd)])=some (finR x (x.store.foldl (wy_ x W) (W.foldl (xQ_ x) []))) from by
   unfold v3_ finR
   rw [show x.store.foldl (wy_ x W) (W.foldl (xQ_ x) [])=y7_ x W from rfl]
   split <;> rfl]
  rw [aqm_];simp (disch:=omega) only [↓pq,↓pj,ps,pz,↓reduceIte,Q0_,Q1_,Q2_,Q3_,Q4_,Q5_,Q6_,Q7_,Q8_,yQ_,yP_,yO_,ac7_,hS,hW]
  refine zj_ W (fun i c=>[.l (c.map eRcd),ii i]) (xQ_ x) (fun c=>some (finR x (x.store.foldl (wy_ x W) c))) [] (fun i c=>InvR i c) rfl (za_ (by omega)) ⟨Fit.nil,by simp⟩ ?_ ?_
  ·intro i c hi hc
   have hnr:=hWf.near.gt (n:=i) (by omega) hi
   generalize hw:gt W (i:Int)=w at hnr
   refine ⟨?_,fun q=>?_⟩
   ·unfold xQ_
    split
    ·exact hc.put hnr (aa8_ hst hbt w).1
    ·exact hc.mono (by omega)
   ·have hcl:=hc.1.len
    have hF:=aLd_ x.store w (ii w.seq) (.l (w.near.map zu_)) (ii w.cost) (bb w.far) h4 h5
    have hq:=aor_ (ii x.id) (ii x.net.n) (.l (x.net.links.map zr_)) (.l (x.net.things.map zo_)) (.l (x.heard.map eInt)) (.l (x.store.map eRcd)) x w hst hbt
    have hp:=uL_ c w.area w.kind w.owner w.key (wr_ x w) w.near w.cost w.far (by omega) hc.1.near hnr
    have hlt:=aa9_ x.store w
    unfold xQ_ newB
    unfold xV_ at hq
    by_cases h0:keyP x.store w < 0
    ·rw [if_pos h0] at hF hq
     simp (disch:=omega) only [↓pq,↓pj,ps,pz,↓reduceIte,Q0_,Q1_,Q2_,Q3_,Q4_,Q5_,Q6_,Q7_,Q8_,yQ_,yP_,yO_,hi,hw,hF,h0,hq,hp,decide_true,Bool.true_or,bF_]
     rfl
    ·have h1:0≤keyP x.store w:=by omega
     rw [if_neg h0] at hF hq
     have hsb:=ab1_ (gt x.store (keyP x.store w)).area (gt x.store (keyP x.store w)).kind (gt x.store (keyP x.store w)).owner (gt x.store (keyP x.store w)).key (gt x.store (keyP x.store w)).seq (gt x.store (keyP x.store w)).near (gt x.store (keyP x.store w)).cost (gt x.store (keyP x.store w)).far w.area w.kind w.owner w.key w.seq w.near w.cost w.far (h5.gt h1 hlt)
     rw [show (⟨(gt x.store (keyP x.store w)).area,(gt x.store (keyP x.store w)).kind,(gt x.store (keyP x.store w)).owner,(gt x.store (keyP x.store w)).key,(gt x.store (keyP x.store w)).seq,(gt x.store (keyP x.store w)).near,(gt x.store (keyP x.store w)).cost,(gt x.store (keyP x.store w)).far⟩:Rcd)=gt x.store (keyP x.store w) from rfl,show (⟨w.area,w.kind,w.owner,w.key,w.seq,w.near,w.cost,w.far⟩:Rcd)=w from rfl] at hsb
     simp only [eRcd,List.cons_append,List.nil_append] at hF
     cases hc2:xD_ (gt x.store (keyP x.store w)) w with
     | true =>
      rw [hc2] at hsb
      simp (disch:=omega) only [↓pq,↓pj,ps,pz,↓reduceIte,Q0_,Q1_,Q2_,Q3_,Q4_,Q5_,Q6_,Q7_,Q8_,yQ_,yP_,yO_,hi,hw,hF,h0,hsb,decide_false,Bool.false_or,Bool.not_true,bF_]
     | false =>
      rw [hc2] at hsb
      simp (disch:=omega) only [↓pq,↓pj,ps,pz,↓reduceIte,Q0_,Q1_,Q2_,Q3_,Q4_,Q5_,Q6_,Q7_,Q8_,yQ_,yP_,yO_,hi,hw,hF,h0,hsb,hq,hp,decide_false,Bool.false_or,Bool.not_false,bF_]
      rfl
  ·intro c q hc
   simp (disch:=omega) only [↓pq,↓pj,ps,pz,↓reduceIte,Q0_,Q1_,Q2_,Q3_,Q4_,Q5_,Q6_,Q7_,Q8_,yQ_,yP_,yO_,]
   refine zj_ x.store (fun i c=>[.l (c.map eRcd),ii i]) (wy_ x W) (fun l=>some (finR x l)) c (fun i c=>InvR (25+i) c) rfl (za_ (by omega)) (hc.mono (by omega)) ?_ ?_
   ·intro i c hi hc
    have hnr:=h5.gt (n:=i) (by omega) hi
    have hro:=xI_ hst (zS_ (l:=x.store) (n:=(i:Int)) (by omega) hi)
    generalize hr:gt x.store (i:Int)=r at hnr hro
    refine ⟨?_,fun q=>?_⟩
    ·unfold wy_
     split
     ·exact hc.put (by show (zF_ r).near.length≤_;rw [qN_];simp) (aa8_ hst hbt r).1
     ·exact hc.mono (by omega)
    ·have hcl:=hc.1.len
     have hk:=k2_ W r.area r.kind r.owner r.key (ii r.seq) (.l (r.near.map zu_)) (ii r.cost) (bb r.far) (by omega)
     rw [jw_] at hk
     have hold:xV_ x.store r=r.seq:=by
      obtain ⟨j,hj,e⟩:∃ j:Nat,j < x.store.length∧keyP x.store r=j:=by
       have h0:0≤zn_ (fun y=>zb_ y r) x.store:=jP_ (hr ▸ zS_ (l:=x.store) (n:=(i:Int)) (by omega) hi) (wc_ r)
       have:=aa9_ x.store r
       exact ⟨(keyP x.store r).toNat,by unfold keyP at *;omega,by unfold keyP at *;omega⟩
      have hspec:zb_ (gt x.store (keyP x.store r)) r=true:=yE_ (fun y=>zb_ y r) x.store (by unfold keyP at e;omega)
      have hm:=zS_ (l:=x.store) (n:=keyP x.store r) (by omega) (by omega)
      have hmr:r∈x.store:=hr ▸ zS_ (l:=x.store) (n:=(i:Int)) (by omega) hi
      have heq:gt x.store (keyP x.store r)=r:=by
       generalize gt x.store (keyP x.store r)=z at hspec hm
       have hso:=yD_ hst
       obtain ⟨a,ha,rfl⟩:=List.mem_iff_getElem.1 hm
       obtain ⟨b,hb,e2⟩:=List.mem_iff_getElem.1 hmr
       rcases Nat.lt_trichotomy a b with hab | hab | hab
       ·have:=List.pairwise_iff_getElem.1 hso a b ha hb hab
        rw [e2] at this
        rw [un_ this] at hspec;cases hspec
       ·subst hab;exact e2
       ·have:=List.pairwise_iff_getElem.1 hso b a hb ha hab
        rw [e2] at this
        have h9:=xs_ hspec
        rw [un_ this] at h9;cases h9
      unfold xV_
      rw [if_neg (by omega),heq]
     have hq:=aor_ (ii x.id) (ii x.net.n) (.l (x.net.links.map zr_)) (.l (x.net.things.map zo_)) (.l (x.heard.map eInt)) (.l (x.store.map eRcd)) x r hst hbt
     rw [hold] at hq
     have hcp:=kQ_ r.area r.kind r.owner r.key r.seq r.near r.cost r.far hnr
     have hg:=aAo_ r (aK0_ hro)
     have hsb:=ab1_ (zF_ r).area (zF_ r).kind (zF_ r).owner (zF_ r).key (zF_ r).seq (zF_ r).near (zF_ r).cost (zF_ r).far r.area r.kind r.owner r.key r.seq r.near r.cost r.far (by rw [qN_];simp)
     have hp:=uL_ c (zF_ r).area (zF_ r).kind (zF_ r).owner (zF_ r).key (wr_ x r) (zF_ r).near (zF_ r).cost (zF_ r).far (by omega) hc.1.near (by rw [qN_];simp)
     rw [show (⟨(zF_ r).area,(zF_ r).kind,(zF_ r).owner,(zF_ r).key,(zF_ r).seq,(zF_ r).near,(zF_ r).cost,(zF_ r).far⟩:Rcd)=zF_ r from rfl,show (⟨r.area,r.kind,r.owner,r.key,r.seq,r.near,r.cost,r.far⟩:Rcd)=r from rfl] at hsb
     unfold wy_ qi_
     simp only [eRcd] at hg
     by_cases h0:r.owner=x.id
     ·rw [h0] at hk hg hsb hcp
      by_cases h1:keyP W r < 0
      ·have h2:¬ keyP W r ≥ 0:=by omega
       cases hc2:xD_ (zF_ r) r with
       | true =>
        rw [hc2] at hsb
        simp (disch:=omega) only [↓pq,↓pj,ps,pz,↓reduceIte,Q0_,Q1_,Q2_,Q3_,Q4_,Q5_,Q6_,Q7_,Q8_,yQ_,yP_,yO_,hi,hr,h0,hk,h1,h2,hcp,hg,hsb,Bool.not_true,Bool.and_false,bF_]
       | false =>
        rw [hc2] at hsb
        simp (disch:=omega) only [↓pq,↓pj,ps,pz,↓reduceIte,Q0_,Q1_,Q2_,Q3_,Q4_,Q5_,Q6_,Q7_,Q8_,yQ_,yP_,yO_,hi,hr,h0,hk,h1,h2,hcp,hg,hsb,hq,hp,Bool.not_false,Bool.and_true,beq_self_eq_true,decide_true,bF_]
        rfl
      ·have h2:keyP W r ≥ 0:=by omega
       simp (disch:=omega) only [↓pq,↓pj,ps,pz,↓reduceIte,Q0_,Q1_,Q2_,Q3_,Q4_,Q5_,Q6_,Q7_,Q8_,yQ_,yP_,yO_,hi,hr,h0,hk,h1,h2,decide_false,Bool.false_and,Bool.and_false,bF_]
     ·have e0:(r.owner == x.id)=false:=by simpa using h0
      simp (disch:=omega) only [↓pq,↓pj,ps,pz,↓reduceIte,Q0_,Q1_,Q2_,Q3_,Q4_,Q5_,Q6_,Q7_,Q8_,yQ_,yP_,yO_,hi,hr,h0,e0,Bool.false_and,bF_]
   ·intro l q hl'
    have hll:=hl'.1.len
    simp (disch:=omega) only [↓pq,↓pj,ps,pz,↓reduceIte,Q0_,Q1_,Q2_,Q3_,Q4_,Q5_,Q6_,Q7_,Q8_,yQ_,yP_,yO_,]
    have hwz:zq_ seqZ x.store l=zq_ same x.store l:=ajp_ (fun r hr=>by unfold seqZ;rw [if_neg (by have:=hl'.2 r hr;omega)];rfl) _
    have hwi:=ad5_ x.store l (by omega) h5 hl'.1.near
    rw [hwz] at hwi
    have hpf:Fit 325 (zq_ same x.store l):=(Fit.puts (f:=same) (fun r hr=>hl'.1.near r hr) hf).mono (by omega)
    unfold finR
    generalize zq_ same x.store l=P at hwi hpf
    have hPl:=hpf.len
    refine (w3_ l.length (fun i=>[.l [],ii i]) (fun i=>decide ((gt l (i:Int)).seq≤100000)) (outF:=some (yk_ x++[.l []])) (outT:=some (if P.length≤150 then yk_ { x with store:=P }++[.l (l.map eRcd)] else yk_ x++[.l []])) rfl (za_ (by omega)) ?_ ?_).trans ?_
    ·intro i hi s
     by_cases hq:(gt l (i:Int)).seq≤100000
     ·have hq':¬ (gt l (i:Int)).seq > 100000:=by omega
      simp (disch:=omega) only [↓pq,↓pj,ps,pz,↓reduceIte,Q0_,Q1_,Q2_,Q3_,Q4_,Q5_,Q6_,Q7_,Q8_,yQ_,yP_,yO_,hi,hq,hq',decide_true]
     ·have hq':(gt l (i:Int)).seq > 100000:=by omega
      simp (disch:=omega) only [↓pq,↓pj,ps,pz,↓reduceIte,Q0_,Q1_,Q2_,Q3_,Q4_,Q5_,Q6_,Q7_,Q8_,yQ_,yP_,yO_,hi,hq,hq',hC,decide_false,bF_]
      rfl
    ·intro s
     by_cases hq:P.length≤150
     ·have hq':¬ (P.length:Int) > 150:=by omega
      rw [if_pos hq]
      simp (disch:=omega) only [↓pq,↓pj,ps,pz,↓reduceIte,Q0_,Q1_,Q2_,Q3_,Q4_,Q5_,Q6_,Q7_,Q8_,yQ_,yP_,yO_,hC,hwi,va_ P (by omega) hpf.near,hq',va_ l (by omega) hl'.1.near]
      rfl
     ·have hq':(P.length:Int) > 150:=by omega
      rw [if_neg hq]
      simp (disch:=omega) only [↓pq,↓pj,ps,pz,↓reduceIte,Q0_,Q1_,Q2_,Q3_,Q4_,Q5_,Q6_,Q7_,Q8_,yQ_,yP_,yO_,hC,hwi,va_ P (by omega) hpf.near,hq']
      rfl
    ·have e:allB l.length (fun i=>decide ((gt l (i:Int)).seq≤100000))=l.all fun r=>decide (r.seq≤100000):=by
      rw [Bool.eq_iff_iff,allB_iff,List.all_eq_true]
      constructor
      ·intro h r hr
       obtain ⟨i,hi,rfl⟩:=List.mem_iff_getElem.1 hr
       have:=h i hi
       rwa [zm_ hi] at this
      ·intro h i hi
       rw [zm_ hi]
       exact h _ (List.getElem_mem hi)
     rw [e]
     cases l.all fun r=>decide (r.seq≤100000) with
     | false=>rw [if_neg (by decide),if_neg (by rintro ⟨h,_⟩;cases h)]
     | true =>
      rw [if_pos rfl]
      by_cases hq:P.length≤150
      ·rw [if_pos hq,if_pos ⟨rfl,hq⟩]
      ·rw [if_neg hq,if_neg fun h=>hq h.2]
end Go.Proofs.YtjimmglpkndemaaGreatC

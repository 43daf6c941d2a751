/- What a node renews, by both programs: the whole. Conditions: none. -/
import Derived.Test.YtjimmglpkndemaaGreatXSZb
namespace Go.Proofs.YtjimmglpkndemaaGreatC
open Int renaming reduceLE → Q0_, reduceLT → Q1_, reduceEq → Q2_, reduceGT → Q3_, reduceGE → Q4_, reduceAdd → Q5_, reduceSub → Q6_, reduceMul → Q7_, reduceNeg → Q8_
set_option linter.unusedVariables false
set_option linter.unusedSimpArgs false
theorem aHg_ {α γ:Type} [Inhabited α] (l:List α) (p:α→Bool) (g:γ→α→γ) (c:γ) :
  runE (fun i _=>p (gt l (i:Int))) (fun c i=>g c (gt l (i:Int))) l.length c=if l.all p=true then some (l.foldl g c) else none:=by
 have key:∀ (m:List α) (o:γ),m.foldl (fun (o:Option γ) a=>o.bind fun c=>if p a=true then some (g c a) else none) (some o)=if m.all p=true then some (m.foldl g o) else none:=by
  intro m
  induction m with
  | nil=>intro o;simp
  | cons a m ih =>
   intro o
   rw [List.foldl_cons,Option.bind_some]
   cases hp:p a with
   | true=>rw [if_pos rfl,ih];simp [hp]
   | false =>
    rw [if_neg (by decide)]
    have:∀ m:List α,m.foldl (fun (o:Option γ) a=>o.bind fun c=>if p a=true then some (g c a) else none) none=none:=by
     intro m;induction m with
     | nil=>rfl
     | cons a m ih=>exact ih
    rw [this];simp [hp]
 have e:l=(List.range l.length).map fun i:Nat=>gt l (i:Int):=by
  refine List.ext_getElem (by simp) fun i h1 h2=>?_
  rw [List.getElem_map,List.getElem_range,zm_ h1]
 rw [← key]
 conv=>rhs;rw [e]
 rw [List.foldl_map]
 rfl
theorem au8_ (x:Self) (h1:x.net.links.length≤1048576) (h2:x.net.things.length≤1048576) (h3:x.heard.length≤1048576) (h4:x.store.length≤1048576) (h5:NearL x.store) :
  ud_ [ii x.id,ii x.boot,ii x.net.n,.l (x.net.links.map zr_),.l (x.net.things.map zo_),.l (x.heard.map eInt),.l (x.store.map eRcd)]=some (yk_ x):=by
 have hN:qa_ [ii x.net.n,.l (x.net.links.map zr_),.l (x.net.things.map zo_)]=some [ii x.net.n,.l (x.net.links.map zr_),.l (x.net.things.map zo_)]:=by
  rw [aAh_];simp (disch:=omega) only [↓pq,↓pj,ps,pz,↓reduceIte,Q0_,Q1_,Q2_,Q3_,Q4_,Q5_,Q6_,Q7_,Q8_,aeb_]
 rw [au4_];simp (disch:=omega) only [↓pq,↓pj,ps,pz,↓reduceIte,Q0_,Q1_,Q2_,Q3_,Q4_,Q5_,Q6_,Q7_,Q8_,abq_,hN,yq_ _ h3,wu_ _ h4 h5]
 rfl
theorem ayc_ (x:Self) (h1:x.net.links.length≤1048576) (h2:x.net.things.length≤1048576) (h3:x.heard.length≤1048576) (h4:x.store.length≤1048576) (h5:NearL x.store) :
  u1_ [ii x.id,ii x.boot,ii x.net.n,.l (x.net.links.map zr_),.l (x.net.things.map zo_),.l (x.heard.map eInt),.l (x.store.map eRcd)]=some (yk_ x):=by
 rw [az0_];simp (disch:=omega) only [↓pq,↓pj,ps,pz,↓reduceIte,Q0_,Q1_,Q2_,Q3_,Q4_,Q5_,Q6_,Q7_,Q8_,aed_,va_ _ h4 h5]
 rfl
theorem aLd_ (s:List Rcd) (r:Rcd) (u4 u5 u6 u7:T) (h:s.length≤1048576) (hn:NearL s) :
  vF_ [.l (s.map eRcd),ii r.area,ii r.kind,ii r.owner,ii r.key,u4,u5,u6,u7]=if keyP s r < 0 then some [ii 0,ii 0,ii 0,ii 0,ii 0,.l [],ii 0,bb false,bb false] else some (eRcd (gt s (keyP s r))++[bb true]):=by
 have hk:=k2_ s r.area r.kind r.owner r.key u4 u5 u6 u7 h
 rw [jw_] at hk
 have hlt:=aa9_ s r
 rw [aw9_]
 by_cases h0:keyP s r < 0
 ·rw [if_pos h0]
  simp (disch:=omega) only [↓pq,↓pj,ps,pz,↓reduceIte,Q0_,Q1_,Q2_,Q3_,Q4_,Q5_,Q6_,Q7_,Q8_,kF_,hk,h0]
 ·rw [if_neg h0]
  have h1:0≤keyP s r:=by omega
  have hnr:=hn.gt h1 hlt
  simp (disch:=omega) only [↓pq,↓pj,ps,pz,↓reduceIte,Q0_,Q1_,Q2_,Q3_,Q4_,Q5_,Q6_,Q7_,Q8_,kF_,hk,h0,h1,hlt,kQ_]
  rfl
theorem ai0_ {x:Self} (S:List Rcd) (ht:x.net.things.length≤4) (hh:x.heard.length≤1048576):Fit 25 (y8_ x S):=by
 have h1:=ahe_ x
 have h2:=aK8_ x S
 have h3:=aA4_ x
 refine (Fit.puts (f:=same) (l:=ownL x++beyL x S++thL x) (fun r hr=>?_) Fit.nil).mono ?_
 ·show r.near.length≤_
  rcases List.mem_append.1 hr with hr | hr
  ·rcases List.mem_append.1 hr with hr | hr
   ·exact ac6_ hh r hr
   ·unfold beyL at hr
    split at hr
    ·obtain ⟨a,_,hr⟩:=List.mem_flatMap.1 hr
     exact abn_ _ _ _ _ r hr
    ·cases hr
  ·obtain ⟨t,_,rfl⟩:=List.mem_map.1 hr
   simp [xt_]
 ·simp only [List.length_append];omega
theorem aot_ {x:Self} {W:List Rcd} (hW:Fit 25 W) (hs:x.store.length≤150):Fit 175 (y7_ x W):=by
 have h1:∀ (l c:List Rcd) k,(∀ r∈l,r.near.length≤1048576)→Fit k c→Fit (k+l.length) (l.foldl (xQ_ x) c):=by
  intro l
  induction l with
  | nil=>intro c k _ h;exact h
  | cons a l ih=>intro c k hl h;rw [List.foldl_cons,List.length_cons];exact (ih _ _ (fun r hr=>hl r (.tail _ hr)) (ao6_ h (hl a (.head _)))).mono (by omega)
 have h2:∀ (l c:List Rcd) k,Fit k c→Fit (k+l.length) (l.foldl (wy_ x W) c):=by
  intro l
  induction l with
  | nil=>intro c k h;exact h
  | cons a l ih=>intro c k h;rw [List.foldl_cons,List.length_cons];exact (ih _ _ (amv_ h a)).mono (by omega)
 have hl:=hW.len
 exact (h2 _ _ _ (h1 W [] 0 hW.near Fit.nil)).mono (by omega)
theorem aFc_ {x:Self} (h:ze_ x.store=true) (hb:0≤x.boot∧x.boot≤90) (W:List Rcd):∀ r∈y7_ x W,1≤r.seq:=by
 have hp:∀ (c:List Rcd) (r:Rcd),1≤r.seq→(∀ y∈c,1≤y.seq)→∀ y∈putR c r,1≤y.seq:=by
  intro c r h1 h2 y hy
  rcases wA_ hy with rfl | hy
  ·exact h1
  ·exact h2 y hy
 have h1:∀ (l c:List Rcd),(∀ y∈c,1≤y.seq)→∀ y∈l.foldl (xQ_ x) c,1≤y.seq:=by
  intro l
  induction l with
  | nil=>intro c h;exact h
  | cons a l ih =>
   intro c hc
   rw [List.foldl_cons]
   refine ih _ ?_
   unfold xQ_
   split
   ·exact hp _ _ (aa8_ h hb a).1 hc
   ·exact hc
 have h2:∀ (l c:List Rcd),(∀ y∈c,1≤y.seq)→∀ y∈l.foldl (wy_ x W) c,1≤y.seq:=by
  intro l
  induction l with
  | nil=>intro c h;exact h
  | cons a l ih =>
   intro c hc
   rw [List.foldl_cons]
   refine ih _ ?_
   unfold wy_
   split
   ·exact hp _ _ (aa8_ h hb a).1 hc
   ·exact hc
 exact h2 _ _ (h1 _ _ (by simp))
def vf_ (x:Self):Self × List Rcd:=if xu_ x=true then v3_ x (y8_ x (byR x.store x.id (ownL x))) else (x,[])
theorem aqs_ (x:Self) (h1:x.net.links.length≤1048576) (h2:x.net.things.length≤1048576) (h3:x.heard.length≤1048576) (h4:x.store.length≤1048576) (h5:NearL x.store) :
  jF_ [ii x.id,ii x.boot,ii x.net.n,.l (x.net.links.map zr_),.l (x.net.things.map zo_),.l (x.heard.map eInt),.l (x.store.map eRcd)]=some (yk_ (vf_ x).1++[.l ((vf_ x).2.map eRcd)]):=by
 have hS:=aa3_ x.id x.boot x.net.n x.net.links x.net.things x.heard x.store h1 h2 h3 h4 h5
 rw [show (⟨x.id,x.boot,⟨x.net.n,x.net.links,x.net.things⟩,x.heard,x.store⟩:Self)=x from rfl] at hS
 have hC:=au8_ x h1 h2 h3 h4 h5
 simp only [yk_] at hC
 cases hk:xu_ x with
 | false =>
  rw [hk] at hS
  rw [show vf_ x=(x,[]) from by unfold vf_;rw [if_neg (by rw [hk];decide)]]
  rw [arb_];simp (disch:=omega) only [↓pq,↓pj,ps,pz,↓reduceIte,Q0_,Q1_,Q2_,Q3_,Q4_,Q5_,Q6_,Q7_,Q8_,vC_,adm_,hS,hC,bF_]
  rfl
 | true =>
  rw [hk] at hS
  rw [show vf_ x=v3_ x (y8_ x (byR x.store x.id (ownL x))) from by unfold vf_;rw [if_pos hk]]
  obtain ⟨hN,hid,hbt,hev,hpr,hst⟩:=yU_ hk
  obtain ⟨n1,hl,ht,hA,hT⟩:=w0_ hN
  have hW:=am3_ x.id x.boot x.net.n x.net.links x.net.things x.heard x.store h1 h2 h3 h4 h5 hk
  rw [show (⟨x.id,x.boot,⟨x.net.n,x.net.links,x.net.things⟩,x.heard,x.store⟩:Self)=x from rfl] at hW
  have hWf:=ai0_ (x:=x) (byR x.store x.id (ownL x)) ht h3
  generalize y8_ x (byR x.store x.id (ownL x))=W at hW hWf
  have hf:=q7_ hst h5
  have hF:=aIk_ x W _ _ _ hst hbt h5 hWf.len hWf.near _ hW
  have hlf:=aot_ (x:=x) hWf hf.len
  unfold v3_
  generalize y7_ x W=l at hF hlf
  have hll:=hlf.len
  rw [arb_];simp (disch:=omega) only [↓pq,↓pj,ps,pz,↓reduceIte,Q0_,Q1_,Q2_,Q3_,Q4_,Q5_,Q6_,Q7_,Q8_,vC_,adm_,hS,hC,hF,wu_ _ h4 h5]
  refine (aG3_ l.length (fun i c=>[.l [],.l (c.map eRcd),ii i]) (fun i _=>decide ((gt l (i:Int)).seq≤100000)) (fun c i=>putR c (same (gt l (i:Int)))) (fun c=>some (if c.length≤150 then yk_ { x with store:=c }++[.l (l.map eRcd)] else yk_ x++[.l []])) (outF:=some (yk_ x++[.l []])) x.store (fun i c=>Fit (150+i) c) rfl (za_ (by omega)) hf ?_ ?_).trans ?_
  ·intro i c hi hc
   have hnr:=hlf.near.gt (n:=i) (by omega) hi
   refine ⟨fun _=>hc.put hnr,fun q=>?_⟩
   have hcl:=hc.len
   have hp:=qL_ c (gt l (i:Int)).area (gt l (i:Int)).kind (gt l (i:Int)).owner (gt l (i:Int)).key (gt l (i:Int)).seq (gt l (i:Int)).near (gt l (i:Int)).cost (gt l (i:Int)).far (by omega) hc.near hc.so hnr
   by_cases hq:(gt l (i:Int)).seq≤100000
   ·have hq':¬ (gt l (i:Int)).seq > 100000:=by omega
    simp (disch:=omega) only [↓pq,↓pj,ps,pz,↓reduceIte,Q0_,Q1_,Q2_,Q3_,Q4_,Q5_,Q6_,Q7_,Q8_,vC_,hi,hq,hq',hp,decide_true]
    rfl
   ·have hq':(gt l (i:Int)).seq > 100000:=by omega
    simp (disch:=omega) only [↓pq,↓pj,ps,pz,↓reduceIte,Q0_,Q1_,Q2_,Q3_,Q4_,Q5_,Q6_,Q7_,Q8_,vC_,hi,hq,hq',decide_false,bF_]
    rfl
  ·intro c q hc
   by_cases hq:c.length≤150
   ·have hq':¬ (c.length:Int) > 150:=by omega
    rw [if_pos hq]
    simp (disch:=omega) only [↓pq,↓pj,ps,pz,↓reduceIte,Q0_,Q1_,Q2_,Q3_,Q4_,Q5_,Q6_,Q7_,Q8_,vC_,hq']
    rfl
   ·have hq':(c.length:Int) > 150:=by omega
    rw [if_neg hq]
    simp (disch:=omega) only [↓pq,↓pj,ps,pz,↓reduceIte,Q0_,Q1_,Q2_,Q3_,Q4_,Q5_,Q6_,Q7_,Q8_,vC_,hq']
    rfl
  ·rw [aHg_ l (fun r=>decide (r.seq≤100000)) (fun c r=>putR c (same r))]
   cases hal:l.all fun r=>decide (r.seq≤100000) with
   | false =>
    rw [if_neg (by decide),if_neg (by rintro ⟨h,_⟩;cases h)]
    rfl
   | true =>
    rw [if_pos rfl]
    show some (if (zq_ same x.store l).length≤150 then _ else _)=_
    by_cases hq:(zq_ same x.store l).length≤150
    ·rw [if_pos hq,if_pos ⟨rfl,hq⟩]
     rfl
    ·rw [if_neg hq,if_neg fun h=>hq h.2]
     rfl
end Go.Proofs.YtjimmglpkndemaaGreatC

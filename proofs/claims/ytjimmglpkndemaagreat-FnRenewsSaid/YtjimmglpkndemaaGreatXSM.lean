/- Routes beyond an area, by both programs. Conditions: none. -/
import Derived.Test.YtjimmglpkndemaaGreatXSL
namespace Go.Proofs.YtjimmglpkndemaaGreatC
open Int renaming reduceLE → Q0_, reduceLT → Q1_, reduceEq → Q2_, reduceGT → Q3_, reduceGE → Q4_, reduceAdd → Q5_, reduceSub → Q6_, reduceMul → Q7_, reduceNeg → Q8_
set_option linter.unusedVariables false
set_option linter.unusedSimpArgs false
theorem aA6_ {s:List Rcd} (hs:ze_ s=true) {x:Rcd} (hx:x∈s) (h:x.kind=2):(1≤x.key∧x.key≤6)∧0≤x.cost∧x.cost≤60000:=by
 have:=xI_ hs hx
 unfold zE_ at this
 rw [if_neg (by omega),if_pos h] at this
 simp only [bA_,inB_iff] at this
 exact ⟨this.2.1.1.1.2,this.2.1.2⟩
theorem aI6_ {s:List Rcd} (hs:ze_ s=true) {x:Rcd} (hx:x∈s):0≤x.cost∧x.cost≤60000:=by
 have:=xI_ hs hx
 unfold zE_ at this
 grind [inB_iff]
theorem aj8_ {s:List Rcd} {a fr v:Int} {w:Way} (h:wayO (waysIn s a fr) v=some w):w.to=v∧zs_ w.hops∧0≤w.cost∧w.cost≤6000∧ze_ s=true:=by
 have h1:=wa_ h
 have h2:=waysIn_ok.2.2 w h1.1
 refine ⟨h1.2,h2.2.1,h2.2.2.1,h2.2.2.2,?_⟩
 cases e:ze_ s with
 | true=>rfl
 | false =>
  have:waysIn s a fr=[]:=by unfold waysIn;rw [if_neg (by rw [e];simp)]
  rw [this] at h1;cases h1.1
def recB (s:List Rcd) (A:List Int) (z:Bool) (fr:Int) (x:Rcd):Option Way :=
 if x.kind=2∧x.cost < 60000∧x.owner≠fr∧A.contains x.area=true∧(z=true→x.area=0)∧wayP (within s A fr) x.key < 0 then
  match wayO (waysIn s x.area fr) x.owner with
  | none=>none
  | some w=>if x.cost+w.cost < 60000 then some ⟨x.key,x.cost+w.cost,w.hops⟩ else none
 else none
theorem jH_ {s:List Rcd} {A:List Int} {z:Bool} {fr:Int} {x:Rcd} {w:Way} (h:recB s A z fr x=some w):(x.kind=2∧x.cost < 60000∧x.owner≠fr∧A.contains x.area=true∧(z=true→x.area=0)∧wayP (within s A fr) x.key < 0)∧∃ y,wayO (waysIn s x.area fr) x.owner=some y∧x.cost+y.cost < 60000∧w=⟨x.key,x.cost+y.cost,y.hops⟩:=by
 unfold recB at h
 split at h
 ·rename_i hc
  refine ⟨hc,?_⟩
  split at h
  ·cases h
  ·rename_i y hy
   split at h
   ·rename_i hl;cases h;exact ⟨y,hy,hl,rfl⟩
   ·cases h
 ·cases h
theorem aA9_ {s:List Rcd} {A:List Int} {z:Bool} {fr:Int} {x:Rcd} (hx:x∈s) {w:Way} (h:recB s A z fr x=some w):(1≤w.to∧w.to≤6)∧zs_ w.hops∧0≤w.cost∧w.cost < 60000:=by
 obtain ⟨h1,y,h2,h3,rfl⟩:=jH_ h
 have h4:=aj8_ h2
 have h5:=aA6_ h4.2.2.2.2 hx h1.1
 exact ⟨h5.1,h4.2.1,by show 0≤x.cost+y.cost;omega,h3⟩
def uq_ (s:List Rcd) (A:List Int) (z:Bool) (fr:Int):List Way:=s.filterMap (recB s A z fr)
theorem anl_ {s:List Rcd} {A:List Int} {z:Bool} {fr:Int}:∀ w∈uq_ s A z fr,(1≤w.to∧w.to≤6)∧zs_ w.hops∧0≤w.cost∧w.cost < 60000:=by
 intro w hw
 obtain ⟨x,hx,h⟩:=List.mem_filterMap.1 hw
 exact aA9_ hx h
def beyond (s:List Rcd) (A:List Int) (z:Bool) (fr:Int):List Way:=wlst (uq_ s A z fr)
theorem aej_ {s:List Rcd} {A:List Int} {fr:Int}:∀ w∈within s A fr,w.hops.length≤1048576:=by
 intro w hw
 have:=xC_ (jI_ (fun x hx=>(abb_ x hx).2.1) hw).1
 omega
theorem aa4_ {s:List Rcd} {A:List Int} {fr:Int}:(within s A fr).length≤6:=abm_ _
theorem aec_ {s:List Rcd} {a fr:Int}:∀ w∈waysIn s a fr,w.hops.length≤1048576:=by
 intro w hw
 have:=xC_ (waysIn_ok.2.2 w hw).2.1
 omega
theorem ag2_ {s:List Rcd} {a fr:Int}:(waysIn s a fr).length≤7:=waysIn_ok.2.1
theorem al2_ (s:List Rcd) (A:List Int) (z:Bool) (fr:Int) (h:s.length≤1048576) (hn:NearL s) (ha:A.length≤1048576):wS_ [.l (s.map eRcd),.l (A.map eInt),bb z,ii fr]=some [.l ((beyond s A z fr).map eWay)]:=by
 rw [al1_];simp (disch:=omega) only [↓pq,↓pj,ps,pz,↓reduceIte,Q0_,Q1_,Q2_,Q3_,Q4_,Q5_,Q6_,Q7_,Q8_,zg_,zh_,zi_,jx_,abz_ _ _ _ h hn ha]
 refine (zj_ s (fun j C=>[.l ((wlst C).map eWay),ii j]) (fun C x=>C++(recB s A z fr x).toList) (fun C=>some [T.l ((wlst C).map eWay)]) [] (fun _ C=>∀ x∈C,zs_ x.hops) rfl (za_ h) (by simp) ?_ ?_).trans (by rw [kb_,List.nil_append,ako_];rfl)
 ·intro j C hj hC
  have hm:=zS_ (l:=s) (n:=(j:Int)) (by omega) hj
  have hstep:recB s A z fr (gt s j)=none→wlst (C++(recB s A z fr (gt s j)).toList)=wlst C:=by intro e;rw [e];simp
  refine ⟨fun x hx=>(List.mem_append.1 hx).elim (hC x) fun hx=>?_,fun q=>?_⟩
  ·rw [Option.mem_toList] at hx
   exact (aA9_ hm hx).2.1
  by_cases k1:(gt s j).kind=2
  rotate_left
  ·rw [hstep (by unfold recB;rw [if_neg (fun h=>k1 h.1)])]
   simp (disch:=omega) only [↓pq,↓pj,ps,pz,↓reduceIte,Q0_,Q1_,Q2_,Q3_,Q4_,Q5_,Q6_,Q7_,Q8_,zg_,zh_,zi_,bF_,hj,k1]
  by_cases k2:(gt s j).cost < 60000
  rotate_left
  ·rw [hstep (by unfold recB;rw [if_neg (fun h=>k2 h.2.1)])]
   simp (disch:=omega) only [↓pq,↓pj,ps,pz,↓reduceIte,Q0_,Q1_,Q2_,Q3_,Q4_,Q5_,Q6_,Q7_,Q8_,zg_,zh_,zi_,bF_,hj,k1,show (gt s j).cost ≥ 60000 by omega]
  by_cases k3:(gt s j).owner=fr
  ·rw [hstep (by unfold recB;rw [if_neg (fun h=>h.2.2.1 k3)])]
   simp (disch:=omega) only [↓pq,↓pj,ps,pz,↓reduceIte,Q0_,Q1_,Q2_,Q3_,Q4_,Q5_,Q6_,Q7_,Q8_,zg_,zh_,zi_,bF_,hj,k1,show ¬ (gt s j).cost ≥ 60000 by omega,k3]
  by_cases k4:A.contains (gt s j).area=true
  rotate_left
  ·have k4':A.contains (gt s j).area=false:=by simpa using k4
   rw [hstep (by unfold recB;rw [if_neg (fun h=>k4 h.2.2.2.1)])]
   simp (disch:=omega) only [↓pq,↓pj,ps,pz,↓reduceIte,Q0_,Q1_,Q2_,Q3_,Q4_,Q5_,Q6_,Q7_,Q8_,zg_,zh_,zi_,bF_,hj,k1,show ¬ (gt s j).cost ≥ 60000 by omega,k3,xM_ _ _ ha,k4']
  by_cases k5:z=true→(gt s j).area=0
  rotate_left
  ·have k5':z=true∧(gt s j).area≠0:=by simpa using k5
   rw [hstep (by unfold recB;rw [if_neg (fun h=>k5 h.2.2.2.2.1)])]
   obtain ⟨rfl,k6⟩:=k5'
   simp (disch:=omega) only [↓pq,↓pj,ps,pz,↓reduceIte,Q0_,Q1_,Q2_,Q3_,Q4_,Q5_,Q6_,Q7_,Q8_,zg_,zh_,zi_,bF_,hj,k1,show ¬ (gt s j).cost ≥ 60000 by omega,k3,xM_ _ _ ha,k4,k6]
  have hW:=ajy_ (within s A fr) (gt s j).key (by have:=aa4_ (s:=s) (A:=A) (fr:=fr);omega) aej_
  have hV:=ajy_ (waysIn s (gt s j).area fr) (gt s j).owner (by have:=ag2_ (s:=s) (a:=(gt s j).area) (fr:=fr);omega) aec_
  have hI:=ag0_ s (gt s j).area fr h hn
  by_cases k6:wayP (within s A fr) (gt s j).key < 0
  rotate_left
  ·rw [hstep (by unfold recB;rw [if_neg (fun h=>k6 h.2.2.2.2.2)])]
   rw [if_neg k6] at hW
   simp only [eWay,List.cons_append,List.nil_append] at hW
   by_cases k7:wayP (waysIn s (gt s j).area fr) (gt s j).owner < 0
   ·rw [if_pos k7] at hV
    cases z with
    | true=>rw [k5 rfl] at hV hI k4;simp (disch:=omega) only [↓pq,↓pj,ps,pz,↓reduceIte,Q0_,Q1_,Q2_,Q3_,Q4_,Q5_,Q6_,Q7_,Q8_,zg_,zh_,zi_,bF_,hj,k1,show ¬ (gt s j).cost ≥ 60000 by omega,k3,xM_ _ _ ha,k4,k5 rfl,hW,hV,hI]
    | false=>simp (disch:=omega) only [↓pq,↓pj,ps,pz,↓reduceIte,Q0_,Q1_,Q2_,Q3_,Q4_,Q5_,Q6_,Q7_,Q8_,zg_,zh_,zi_,bF_,hj,k1,show ¬ (gt s j).cost ≥ 60000 by omega,k3,xM_ _ _ ha,k4,hW,hV,hI]
   ·rw [if_neg k7] at hV
    simp only [eWay,List.cons_append,List.nil_append] at hV
    cases z with
    | true=>rw [k5 rfl] at hV hI k4;simp (disch:=omega) only [↓pq,↓pj,ps,pz,↓reduceIte,Q0_,Q1_,Q2_,Q3_,Q4_,Q5_,Q6_,Q7_,Q8_,zg_,zh_,zi_,bF_,hj,k1,show ¬ (gt s j).cost ≥ 60000 by omega,k3,xM_ _ _ ha,k4,k5 rfl,hW,hV,hI]
    | false=>simp (disch:=omega) only [↓pq,↓pj,ps,pz,↓reduceIte,Q0_,Q1_,Q2_,Q3_,Q4_,Q5_,Q6_,Q7_,Q8_,zg_,zh_,zi_,bF_,hj,k1,show ¬ (gt s j).cost ≥ 60000 by omega,k3,xM_ _ _ ha,k4,hW,hV,hI]
  rw [if_pos k6] at hW
  by_cases k7:wayP (waysIn s (gt s j).area fr) (gt s j).owner < 0
  ·rw [hstep (by unfold recB wayO;rw [if_pos ⟨k1,k2,k3,k4,k5,k6⟩,if_pos k7])]
   rw [if_pos k7] at hV
   cases z with
   | true=>rw [k5 rfl] at hV hI k4;simp (disch:=omega) only [↓pq,↓pj,ps,pz,↓reduceIte,Q0_,Q1_,Q2_,Q3_,Q4_,Q5_,Q6_,Q7_,Q8_,zg_,zh_,zi_,bF_,hj,k1,show ¬ (gt s j).cost ≥ 60000 by omega,k3,xM_ _ _ ha,k4,k5 rfl,hW,hV,hI]
   | false=>simp (disch:=omega) only [↓pq,↓pj,ps,pz,↓reduceIte,Q0_,Q1_,Q2_,Q3_,Q4_,Q5_,Q6_,Q7_,Q8_,zg_,zh_,zi_,bF_,hj,k1,show ¬ (gt s j).cost ≥ 60000 by omega,k3,xM_ _ _ ha,k4,hW,hV,hI]
  have hO:wayO (waysIn s (gt s j).area fr) (gt s j).owner=some (gt (waysIn s (gt s j).area fr) (wayP (waysIn s (gt s j).area fr) (gt s j).owner)):=by unfold wayO;rw [if_neg k7]
  rw [if_neg k7] at hV
  generalize gt (waysIn s (gt s j).area fr) (wayP (waysIn s (gt s j).area fr) (gt s j).owner)=w at hO hV
  have hw:=aj8_ hO
  have hr:=aA6_ hw.2.2.2.2 hm k1
  simp only [eWay,List.cons_append,List.nil_append] at hV
  by_cases k8:(gt s j).cost+w.cost < 60000
  rotate_left
  ·rw [hstep (by unfold recB;rw [if_pos ⟨k1,k2,k3,k4,k5,k6⟩,hO];simp only [];rw [if_neg k8])]
   cases z with
   | true=>rw [k5 rfl] at hV hI k4;simp (disch:=omega) only [↓pq,↓pj,ps,pz,↓reduceIte,Q0_,Q1_,Q2_,Q3_,Q4_,Q5_,Q6_,Q7_,Q8_,zg_,zh_,zi_,bF_,hj,k1,show ¬ (gt s j).cost ≥ 60000 by omega,k3,xM_ _ _ ha,k4,k5 rfl,hW,hV,hI,show (gt s j).cost+w.cost ≥ 60000 by omega]
   | false=>simp (disch:=omega) only [↓pq,↓pj,ps,pz,↓reduceIte,Q0_,Q1_,Q2_,Q3_,Q4_,Q5_,Q6_,Q7_,Q8_,zg_,zh_,zi_,bF_,hj,k1,show ¬ (gt s j).cost ≥ 60000 by omega,k3,xM_ _ _ ha,k4,hW,hV,hI,show (gt s j).cost+w.cost ≥ 60000 by omega]
  have hB:recB s A z fr (gt s j)=some ⟨(gt s j).key,(gt s j).cost+w.cost,w.hops⟩:=by unfold recB;rw [if_pos ⟨k1,k2,k3,k4,k5,k6⟩,hO];simp only [];rw [if_pos k8]
  rw [hB,Option.toList_some,← ang_ (w:=⟨(gt s j).key,(gt s j).cost+w.cost,w.hops⟩) hC hr.1 hw.2.1]
  cases z with
  | true =>
   rw [k5 rfl] at hV hI k4;simp (disch:=omega) only [↓pq,↓pj,ps,pz,↓reduceIte,Q0_,Q1_,Q2_,Q3_,Q4_,Q5_,Q6_,Q7_,Q8_,zg_,zh_,zi_,bF_,hj,k1,show ¬ (gt s j).cost ≥ 60000 by omega,k3,xM_ _ _ ha,k4,k5 rfl,hW,hV,hI,show ¬ (gt s j).cost+w.cost ≥ 60000 by omega]
   exact aJ7_ (wlst C) ⟨(gt s j).key,(gt s j).cost+w.cost,w.hops⟩ j q (abt_ C hC) (abm_ C) (fun x hx=>(jI_ hC hx).1) hw.2.1 (by omega)
  | false =>
   simp (disch:=omega) only [↓pq,↓pj,ps,pz,↓reduceIte,Q0_,Q1_,Q2_,Q3_,Q4_,Q5_,Q6_,Q7_,Q8_,zg_,zh_,zi_,bF_,hj,k1,show ¬ (gt s j).cost ≥ 60000 by omega,k3,xM_ _ _ ha,k4,hW,hV,hI,show ¬ (gt s j).cost+w.cost ≥ 60000 by omega]
   exact aKq_ (wlst C) ⟨(gt s j).key,(gt s j).cost+w.cost,w.hops⟩ j q (abt_ C hC) (abm_ C) (fun x hx=>(jI_ hC hx).1) hw.2.1 (by omega)
 ·intro C q hC
  simp (disch:=omega) only [↓pq,↓pj,ps,pz,↓reduceIte,Q0_,Q1_,Q2_,Q3_,Q4_,Q5_,Q6_,Q7_,Q8_,zg_,zh_,zi_,]
def wz:Way:=⟨0,0,[]⟩
def oW (o:Option Way):Way:=o.getD wz
theorem aA1_ (w:Way):oW (some w)=w:=rfl
def recA (W:List Way) (area fr to:Int) (x:Rcd):Option Way :=
 if x.kind=2∧x.area=area∧x.key=to∧x.owner≠fr∧x.cost < 60000 then
  match wayO W x.owner with
  | none=>none
  | some w=>if w.cost+x.cost < 60000 then some ⟨to,w.cost+x.cost,w.hops⟩ else none
 else none
theorem apt_ {W:List Way} {area fr to:Int} {x:Rcd} (hW:∀ w∈W,zs_ w.hops) {w:Way} (h:recA W area fr to x=some w):w.to=to∧zs_ w.hops:=by
 unfold recA at h
 split at h
 ·split at h
  ·cases h
  ·rename_i y hy
   split at h
   ·cases h;exact ⟨rfl,hW y (wa_ hy).1⟩
   ·cases h
 ·cases h
def age_ (o:Option Way) (l:List Way):Option Way:=l.foldl tog1 o
theorem au1_ {l:List Way} {o:Option Way} (ho:∀ b,o=some b→zs_ b.hops) (hl:∀ w∈l,zs_ w.hops):∀ b,age_ o l=some b→zs_ b.hops:=by
 induction l generalizing o with
 | nil=>exact ho
 | cons a l ih =>
  refine ih (o:=tog1 o a) (fun b hb=>?_) fun w hw=>hl w (.tail _ hw)
  cases o with
  | none=>simp only [tog1] at hb;cases hb;exact hl _ (.head _)
  | some b0=>simp only [tog1] at hb;cases hb;exact awt_ (ho b0 rfl) (hl _ (.head _))
theorem aJ5_ {α:Type} (f:α→Option Way) (l:List α) (o:Option Way):l.foldl (fun o x=>match f x with | none=>o | some w=>tog1 o w) o=age_ o (l.filterMap f):=by
 induction l generalizing o with
 | nil=>rfl
 | cons a l ih =>
  rw [List.foldl_cons,List.filterMap_cons]
  cases f a with
  | none=>exact ih o
  | some w=>exact ih _
theorem as0_ (s:List Rcd) (W:List Way) (area fr to:Int) (o:Option Way) (h:s.length≤1048576) (hn:NearL s) (hs:ze_ s=true) (hWl:W.length≤7) (hW:∀ w∈W,zs_ w.hops∧0≤w.cost∧w.cost≤6000) (ho:∀ b,o=some b→zs_ b.hops) :
  vK_ [.l (s.map eRcd),.l (W.map eWay),ii area,ii fr,ii to,ii (oW o).to,ii (oW o).cost,.l ((oW o).hops.map eInt),bb o.isSome]=(fun o':Option Way=>some [ii (oW o').to,ii (oW o').cost,.l ((oW o').hops.map eInt),bb o'.isSome]) (age_ o (s.filterMap (recA W area fr to))):=by
 rw [ast_];simp (disch:=omega) only [↓pq,↓pj,ps,pz,↓reduceIte,Q0_,Q1_,Q2_,Q3_,Q4_,Q5_,Q6_,Q7_,Q8_,yL_,aan_]
 refine (zj_ s (fun j o=>[bb o.isSome,ii j,ii (oW o).to,ii (oW o).cost,.l ((oW o).hops.map eInt)]) (fun o x=>match recA W area fr to x with | none=>o | some w=>tog1 o w) (fun o':Option Way=>some [ii (oW o').to,ii (oW o').cost,.l ((oW o').hops.map eInt),bb o'.isSome]) o (fun _ o=>∀ b,o=some b→zs_ b.hops) rfl (za_ h) ho ?_ ?_).trans (by rw [aJ5_])
 ·intro j o hj ho
  have hm:=zS_ (l:=s) (n:=(j:Int)) (by omega) hj
  have hc:=aI6_ hs hm
  constructor
  ·intro b hb
   cases e:recA W area fr to (gt s j) with
   | none=>rw [e] at hb;exact ho b hb
   | some w =>
    rw [e] at hb
    exact au1_ (l:=[w]) ho (by intro y hy;rw [List.mem_singleton] at hy;subst hy;exact (apt_ (fun w hw=>(hW w hw).1) e).2) b hb
  intro q
  have hT:=adq_ W (gt s j).owner (by omega) (fun w hw=>by have:=xC_ (hW w hw).1;omega)
  by_cases k1:(gt s j).kind=2∧(gt s j).area=area∧(gt s j).key=to∧(gt s j).owner≠fr∧(gt s j).cost < 60000
  rotate_left
  ·have hr:recA W area fr to (gt s j)=none:=by unfold recA;rw [if_neg k1]
   rw [hr]
   by_cases a1:(gt s j).kind=2
   ·by_cases a2:(gt s j).area=area
    ·by_cases a3:(gt s j).key=to
     ·by_cases a4:(gt s j).owner=fr
      ·simp (disch:=omega) only [↓pq,↓pj,ps,pz,↓reduceIte,Q0_,Q1_,Q2_,Q3_,Q4_,Q5_,Q6_,Q7_,Q8_,yL_,hj,a1,a2,a3,a4]
      ·have a5:(gt s j).cost ≥ 60000:=by
        rcases Int.lt_or_le (gt s j).cost 60000 with h | h
        ·exact absurd ⟨a1,a2,a3,a4,h⟩ k1
        ·exact h
       simp (disch:=omega) only [↓pq,↓pj,ps,pz,↓reduceIte,Q0_,Q1_,Q2_,Q3_,Q4_,Q5_,Q6_,Q7_,Q8_,yL_,hj,a1,a2,a3,a4,a5]
     ·simp (disch:=omega) only [↓pq,↓pj,ps,pz,↓reduceIte,Q0_,Q1_,Q2_,Q3_,Q4_,Q5_,Q6_,Q7_,Q8_,yL_,hj,a1,a2,a3]
    ·simp (disch:=omega) only [↓pq,↓pj,ps,pz,↓reduceIte,Q0_,Q1_,Q2_,Q3_,Q4_,Q5_,Q6_,Q7_,Q8_,yL_,hj,a1,a2]
   ·simp (disch:=omega) only [↓pq,↓pj,ps,pz,↓reduceIte,Q0_,Q1_,Q2_,Q3_,Q4_,Q5_,Q6_,Q7_,Q8_,yL_,hj,a1]
  obtain ⟨a1,a2,a3,a4,a5⟩:=k1
  have a5':¬ (gt s j).cost ≥ 60000:=by omega
  by_cases hp:wayP W (gt s j).owner < 0
  ·have hr:recA W area fr to (gt s j)=none:=by unfold recA wayO;rw [if_pos ⟨a1,a2,a3,a4,a5⟩,if_pos hp]
   rw [hr]
   rw [if_pos hp] at hT
   simp (disch:=omega) only [↓pq,↓pj,ps,pz,↓reduceIte,Q0_,Q1_,Q2_,Q3_,Q4_,Q5_,Q6_,Q7_,Q8_,yL_,hj,a1,a2,a3,a4,a5',hT,bF_]
  rw [if_neg hp] at hT
  have hO:wayO W (gt s j).owner=some (gt W (wayP W (gt s j).owner)):=by unfold wayO;rw [if_neg hp]
  generalize gt W (wayP W (gt s j).owner)=w at hO hT
  have hw:=hW w (wa_ hO).1
  have hl1:=xC_ hw.1
  simp only [eWay,List.cons_append,List.nil_append] at hT
  by_cases hq:w.cost+(gt s j).cost < 60000
  ·have hr:recA W area fr to (gt s j)=some ⟨to,w.cost+(gt s j).cost,w.hops⟩:=by unfold recA;rw [if_pos ⟨a1,a2,a3,a4,a5⟩,hO];simp only [];rw [if_pos hq]
   rw [hr]
   cases o with
   | none=>simp (disch:=omega) only [↓pq,↓pj,ps,pz,↓reduceIte,Q0_,Q1_,Q2_,Q3_,Q4_,Q5_,Q6_,Q7_,Q8_,yL_,hj,a1,a2,a3,a4,a5',hT,show ¬ w.cost+(gt s j).cost ≥ 60000 by omega,Option.isSome_none,bF_];rfl
   | some b =>
    have hl2:=xC_ (ho b rfl)
    simp (disch:=omega) only [↓pq,↓pj,ps,pz,↓reduceIte,Q0_,Q1_,Q2_,Q3_,Q4_,Q5_,Q6_,Q7_,Q8_,yL_,hj,a1,a2,a3,a4,a5',hT,show ¬ w.cost+(gt s j).cost ≥ 60000 by omega,Option.isSome_some,aA1_,aj1_ _ _ _ _ _ _ (show b.hops.length≤1048576 by omega) (show w.hops.length≤1048576 by omega),eWay];rfl
  ·have hr:recA W area fr to (gt s j)=none:=by unfold recA;rw [if_pos ⟨a1,a2,a3,a4,a5⟩,hO];simp only [];rw [if_neg hq]
   rw [hr]
   simp (disch:=omega) only [↓pq,↓pj,ps,pz,↓reduceIte,Q0_,Q1_,Q2_,Q3_,Q4_,Q5_,Q6_,Q7_,Q8_,yL_,hj,a1,a2,a3,a4,a5',hT,show w.cost+(gt s j).cost ≥ 60000 by omega]
 ·intro o q ho
  simp (disch:=omega) only [↓pq,↓pj,ps,pz,↓reduceIte,Q0_,Q1_,Q2_,Q3_,Q4_,Q5_,Q6_,Q7_,Q8_,yL_,]
def refC (s:List Rcd) (A:List Int) (z:Bool) (fr to:Int):List Way:=(A.filter fun a=>!z || a == 0).flatMap fun a=>s.filterMap (recA (waysIn s a fr) a fr to)
theorem aDs_ {α:Type} (p:α→Bool) (f:α→List Way) (l:List α) (o:Option Way):l.foldl (fun o a=>if p a=true then age_ o (f a) else o) o=age_ o ((l.filter p).flatMap f):=by
 induction l generalizing o with
 | nil=>rfl
 | cons a l ih =>
  rw [List.foldl_cons,ih,List.filter_cons]
  cases p a with
  | false=>rfl
  | true=>simp [age_]
theorem aL4_ {s:List Rcd} {A:List Int} {z:Bool} {fr to:Int}:∀ w∈refC s A z fr to,w.to=to∧zs_ w.hops:=by
 intro w hw
 unfold refC at hw
 obtain ⟨a,_,h⟩:=List.mem_flatMap.1 hw
 obtain ⟨x,hx,h⟩:=List.mem_filterMap.1 h
 exact apt_ (fun y hy=>(waysIn_ok.2.2 y hy).2.1) h
theorem aKy_ {s:List Rcd} {A:List Int} {z:Bool} {fr to:Int} (ht:wayP (within s A fr) to < 0) (w:Way):w∈refC s A z fr to↔w∈(uq_ s A z fr).filter fun w=>w.to == to:=by
 unfold refC uq_
 rw [List.mem_flatMap,List.mem_filter,List.mem_filterMap]
 constructor
 ·rintro ⟨a,ha,h⟩
  obtain ⟨x,hx,h⟩:=List.mem_filterMap.1 h
  have ha:=List.mem_filter.1 ha
  unfold recA at h
  split at h
  ·rename_i hc
   obtain ⟨c1,c2,c3,c4,c5⟩:=hc
   subst c2 c3
   split at h
   ·cases h
   ·rename_i y hy
    split at h
    ·rename_i hl
     cases h
     refine ⟨⟨x,hx,?_⟩,by simp⟩
     unfold recB
     rw [if_pos ⟨c1,c5,c4,List.contains_iff_mem.2 ha.1,fun hz=>by have:=ha.2;rw [hz] at this;simpa using this,ht⟩,hy]
     simp only []
     rw [if_pos (by omega),Int.add_comm]
    ·cases h
  ·cases h
 ·rintro ⟨⟨x,hx,h⟩,hto⟩
  obtain ⟨⟨c1,c2,c3,c4,c5,c6⟩,y,hy,hl,rfl⟩:=jH_ h
  have hto:x.key=to:=by simpa using hto
  refine ⟨x.area,List.mem_filter.2 ⟨List.contains_iff_mem.1 c4,?_⟩,List.mem_filterMap.2 ⟨x,hx,?_⟩⟩
  ·cases z with
   | false=>rfl
   | true=>simp [c5 rfl]
  ·unfold recA
   rw [if_pos ⟨c1,rfl,hto,c3,c2⟩,hy]
   simp only []
   rw [if_pos (by omega),Int.add_comm,hto]
theorem awy_ {s:List Rcd} {A:List Int} {z:Bool} {fr to:Int} (ht:¬ wayP (within s A fr) to < 0):(uq_ s A z fr).filter (fun w=>w.to == to)=[]:=by
 rw [List.filter_eq_nil_iff]
 intro w hw
 obtain ⟨x,hx,h⟩:=List.mem_filterMap.1 hw
 obtain ⟨hc,y,_,_,rfl⟩:=jH_ h
 intro e
 have e:x.key=to:=by simpa using e
 subst e
 exact ht hc.2.2.2.2.2
theorem amm_ (s:List Rcd) (A:List Int) (z:Bool) (fr:Int) (h:s.length≤1048576) (hn:NearL s) (ha:A.length≤1048576):wR_ [.l (s.map eRcd),.l (A.map eInt),bb z,ii fr]=some [.l ((beyond s A z fr).map eWay)]:=by
 have hW:=fun a=>waysIn_ok (s:=s) (ar:=a) (fr:=fr)
 rw [amr_];simp (disch:=omega) only [↓pq,↓pj,ps,pz,↓reduceIte,Q0_,Q1_,Q2_,Q3_,Q4_,Q5_,Q6_,Q7_,Q8_,zX_,zW_,zY_,jv_,ab6_ _ _ _ h hn ha,kV_ _ h hn]
 cases hs:ze_ s with
 | false =>
  have:uq_ s A z fr=[]:=by
   unfold uq_
   rw [List.filterMap_eq_nil_iff]
   intro x hx
   cases e:recB s A z fr x with
   | none=>rfl
   | some w =>
    obtain ⟨_,y,hy,_⟩:=jH_ e
    have:=(aj8_ hy).2.2.2.2
    rw [hs] at this;cases this
  simp (disch:=omega) only [↓pq,↓pj,ps,pz,↓reduceIte,Q0_,Q1_,Q2_,Q3_,Q4_,Q5_,Q6_,Q7_,Q8_,zX_,zW_,zY_,bF_]
  unfold beyond
  rw [this]
  rfl
 | true =>
 simp (disch:=omega) only [↓pq,↓pj,ps,pz,↓reduceIte,Q0_,Q1_,Q2_,Q3_,Q4_,Q5_,Q6_,Q7_,Q8_,zX_,zW_,zY_,]
 refine zj_ A (fun j C=>[.l (C.map ahv_),ii j]) (fun C a=>C++[waysIn s a fr]) (fun _=>some [T.l ((beyond s A z fr).map eWay)]) [] (fun j C=>C=(A.take j).map (fun a=>waysIn s a fr)) rfl (za_ ha) rfl ?_ ?_
 ·intro j C hj hC
  have hl:C.length≤j:=by rw [hC];simp;omega
  refine ⟨by rw [List.take_add_one,hC,List.map_append,List.getElem?_eq_getElem (by omega),zm_ (by omega)];rfl,fun q=>?_⟩
  simp (disch:=omega) only [↓pq,↓pj,ps,pz,↓reduceIte,Q0_,Q1_,Q2_,Q3_,Q4_,Q5_,Q6_,Q7_,Q8_,zX_,zW_,zY_,hj,agf_ _ _ _ h hn,awd_,aq4_]
 ·intro C q hC
  have hC:C=A.map (fun a=>waysIn s a fr):=by rw [hC,List.take_length]
  have hCl:C.length=A.length:=by rw [hC,List.length_map]
  have hCg:∀ j:Nat,(j:Int) < A.length→gt C (j:Int)=waysIn s (gt A j) fr:=by
   intro j hj
   rw [zm_ (by omega),zm_ (by omega)]
   simp only [hC,List.getElem_map]
  simp (disch:=omega) only [↓pq,↓pj,ps,pz,↓reduceIte,Q0_,Q1_,Q2_,Q3_,Q4_,Q5_,Q6_,Q7_,Q8_,zX_,zW_,zY_,]
  refine (yV_ 6 (fun i c=>[.l (c.map eWay),ii (i+1)]) (fun c i=>c++(if wayP (within s A fr) ((i:Int)+1) < 0 then togs (refC s A z fr ((i:Int)+1)) else none).toList) (fun c=>some [T.l (c.map eWay)]) [] (fun i c=>c.length≤i) rfl (za_ (by omega)) (by simp) ?_ ?_).trans ?_
  ·intro i c hi hc
   refine ⟨by cases (if wayP (within s A fr) ((i:Int)+1) < 0 then togs (refC s A z fr ((i:Int)+1)) else none) <;> simp <;> omega,fun q'=>?_⟩
   have hi':(i:Int)+1≤6:=by omega
   have hT:=adq_ (within s A fr) ((i:Int)+1) (by have:=aa4_ (s:=s) (A:=A) (fr:=fr);omega) aej_
   by_cases hp:wayP (within s A fr) ((i:Int)+1) < 0
   rotate_left
   ·rw [if_neg hp] at hT ⊢
    simp only [eWay,List.cons_append,List.nil_append] at hT
    simp (disch:=omega) only [↓pq,↓pj,ps,pz,↓reduceIte,Q0_,Q1_,Q2_,Q3_,Q4_,Q5_,Q6_,Q7_,Q8_,zX_,zW_,zY_,hi',hT,Option.toList_none,List.append_nil]
   rw [if_pos hp] at hT ⊢
   simp (disch:=omega) only [↓pq,↓pj,ps,pz,↓reduceIte,Q0_,Q1_,Q2_,Q3_,Q4_,Q5_,Q6_,Q7_,Q8_,zX_,zW_,zY_,hi',hT,bF_]
   refine (zj_ A (fun j o=>[bb o.isSome,ii j,ii (oW o).to,ii (oW o).cost,.l ((oW o).hops.map eInt)]) (fun o a=>if (!z || a == 0)=true then age_ o (s.filterMap (recA (waysIn s a fr) a fr ((i:Int)+1))) else o) (fun o=>q' [T.l ((c++o.toList).map eWay),ii ((i:Int)+1+1)]) none (fun _ o=>∀ b,o=some b→zs_ b.hops) rfl (za_ ha) (by simp) ?_ ?_).trans (by rw [aDs_];rfl)
   ·intro j o hj ho
    obtain ⟨w1,w2,w3⟩:=hW (gt A j)
    have hlC:(j:Int) < C.length:=by omega
    have hB:=as0_ s (waysIn s (gt A j) fr) (gt A j) fr ((i:Int)+1) o h hn hs w2 (fun w hw=>(w3 w hw).2) ho
    have hok:=au1_ (o:=o) (l:=s.filterMap (recA (waysIn s (gt A j) fr) (gt A j) fr ((i:Int)+1))) ho (fun w hw=>by
     obtain ⟨x,_,e⟩:=List.mem_filterMap.1 hw
     exact (apt_ (fun w hw=>(w3 w hw).2.1) e).2)
    cases z with
    | false =>
     refine ⟨hok,fun q2=>?_⟩
     simp (disch:=omega) only [↓pq,↓pj,ps,pz,↓reduceIte,Q0_,Q1_,Q2_,Q3_,Q4_,Q5_,Q6_,Q7_,Q8_,zX_,zW_,zY_,hj,jL_,hCg j hj,hB,bF_,Bool.not_false,Bool.true_or]
    | true =>
     by_cases h0:gt A j=0
     ·rw [h0] at hB hok
      refine ⟨by rw [h0];exact hok,fun q2=>?_⟩
      have hc0:=hCg j hj
      rw [h0] at hc0
      simp (disch:=omega) only [↓pq,↓pj,ps,pz,↓reduceIte,Q0_,Q1_,Q2_,Q3_,Q4_,Q5_,Q6_,Q7_,Q8_,zX_,zW_,zY_,hj,jL_,hc0,h0,hB,beq_self_eq_true,Bool.or_true]
     ·have hne:(gt A j == 0)=false:=by simpa using h0
      rw [hne]
      refine ⟨ho,fun q2=>?_⟩
      simp (disch:=omega) only [↓pq,↓pj,ps,pz,↓reduceIte,Q0_,Q1_,Q2_,Q3_,Q4_,Q5_,Q6_,Q7_,Q8_,zX_,zW_,zY_,hj,h0,Bool.not_true,Bool.or_false,bF_]
   ·intro o q2 ho
    cases o with
    | none=>simp (disch:=omega) only [↓pq,↓pj,ps,pz,↓reduceIte,Q0_,Q1_,Q2_,Q3_,Q4_,Q5_,Q6_,Q7_,Q8_,zX_,zW_,zY_,bF_,Option.isSome_none];simp
    | some b=>simp (disch:=omega) only [↓pq,↓pj,ps,pz,↓reduceIte,Q0_,Q1_,Q2_,Q3_,Q4_,Q5_,Q6_,Q7_,Q8_,zX_,zW_,zY_,Option.isSome_some,aA1_];simp
  ·intro c q' hc
   simp (disch:=omega) only [↓pq,↓pj,ps,pz,↓reduceIte,Q0_,Q1_,Q2_,Q3_,Q4_,Q5_,Q6_,Q7_,Q8_,zX_,zW_,zY_,]
  ·rw [kb_ (fun i:Nat=>(if wayP (within s A fr) ((i:Int)+1) < 0 then togs (refC s A z fr ((i:Int)+1)) else none).toList),List.nil_append]
   congr 3
   unfold beyond wlst
   rw [aew_,List.filterMap_map,ako_]
   refine congrArg (fun f=>List.map eWay (List.filterMap f (List.range 6))) (funext fun i=>?_)
   show _=togs _
   by_cases hp:wayP (within s A fr) ((i:Int)+1) < 0
   ·rw [if_pos hp]
    exact atw_ (v:=(i:Int)+1) aL4_ (aKy_ hp)
   ·rw [if_neg hp,awy_ hp]
    rfl
end Go.Proofs.YtjimmglpkndemaaGreatC

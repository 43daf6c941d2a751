/- The records that there would be, by both programs. Conditions: none. -/
import Derived.Test.YtjimmglpkndemaaGreatXSS
namespace Go.Proofs.YtjimmglpkndemaaGreatC
open Int renaming reduceLE → Q0_, reduceLT → Q1_, reduceEq → Q2_, reduceGT → Q3_, reduceGE → Q4_, reduceAdd → Q5_, reduceSub → Q6_, reduceMul → Q7_, reduceNeg → Q8_
set_option linter.unusedVariables false
set_option linter.unusedSimpArgs false
theorem ajo_ {α β σ:Type} [Inhabited α] {F:(σ→Option β)→σ→Option β} {R:Nat} {x:σ} (l:List α) (st:Nat→List α→σ) (p:α→Bool) {out:Option β} (hx:x=st 0 []) (hR:l.length < R)
  (step:∀ (i:Nat) c,(i:Int) < (l.length:Int)→c.length≤i→∀ s,F s (st i c)=s (st (i+1) (if p (gt l i)=true then c++[gt l i] else c))) (fin:∀ s,F s (st l.length (l.filter p))=out) :
  iter F R x=out:=by
 refine zj_ l st (fun c a=>if p a=true then c++[a] else c) (fun _=>out) [] (fun i c=>c=(l.take i).filter p) hx hR rfl ?_ ?_
 ·intro i c hi hc
  have hi':i < l.length:=by omega
  refine ⟨?_,fun s=>step i c hi (by rw [hc];refine Nat.le_trans (List.length_filter_le _ _) ?_;simp;omega) s⟩
  rw [hc,List.take_add_one,List.filter_append,List.getElem?_eq_getElem hi',zm_ hi']
  cases hp:p l[i] <;> simp [hp]
 ·intro c s hc
  rw [hc,List.take_length]
  exact fin s
theorem ank_ {n:Int} {ls:List Link} (h:ascB (yo_ n) zI_ ls=true) {a b ar:Int} {i:Nat} (hi:i < ls.length) (hj:zt_ a b ar (gt ls (i:Int))=true):zn_ (zt_ a b ar) ls=i:=by
 have h0:=jP_ (zS_ (l:=ls) (n:=(i:Int)) (by omega) (by omega)) hj
 have h1:=y9_ (zt_ a b ar) ls
 have h2:=yE_ _ _ h0
 obtain ⟨k,hk⟩:∃ k:Nat,zn_ (zt_ a b ar) ls=k:=⟨(zn_ (zt_ a b ar) ls).toNat,by omega⟩
 rw [hk] at h1 h2 ⊢
 rw [zm_ (by omega)] at h2
 rw [zm_ hi] at hj
 have:=aHp_ h (by omega) hi h2 hj
 omega
theorem axx_ (t0 t2:T) (ls:List Link) (L:List Bool) (a b ar n:Int) (h:ascB (yo_ n) zI_ ls=true) (hl:ls.length≤12) (hL:L.length=ls.length):u5_ [t0,.l (ls.map zr_),t2,.l (L.map z3_),ii a,ii b,ii ar]=some [ii (w9_ ls L a b ar)]:=by
 rw [ax4_];simp (disch:=omega) only [↓pq,↓pj,ps,pz,↓reduceIte,Q0_,Q1_,Q2_,Q3_,Q4_,Q5_,Q6_,Q7_,Q8_,uh_,ad9_]
 refine (w3_ ls.length (fun i=>[ii 0,ii i]) (fun i=>!(gt L i && zt_ a b ar (gt ls i))) (outF:=some [ii (gt ls (zn_ (zt_ a b ar) ls)).cost]) (outT:=some [ii 0]) rfl (za_ (by omega)) ?_ ?_).trans ?_
 ·intro i hi s
  have hi2:(i:Int) < L.length:=by omega
  by_cases hj:zt_ a b ar (gt ls i)=true
  ·rw [ank_ h (by omega) hj,hj]
   rw [joins_iff] at hj
   simp (disch:=omega) only [↓pq,↓pj,ps,pz,↓reduceIte,Q0_,Q1_,Q2_,Q3_,Q4_,Q5_,Q6_,Q7_,Q8_,uh_,hi,hi2]
   grind
  ·have hj':zt_ a b ar (gt ls i)=false:=by simpa using hj
   rw [hj']
   rw [joins_iff] at hj
   simp (disch:=omega) only [↓pq,↓pj,ps,pz,↓reduceIte,Q0_,Q1_,Q2_,Q3_,Q4_,Q5_,Q6_,Q7_,Q8_,uh_,hi,hi2]
   grind
 ·intro s
  simp (disch:=omega) only [↓pq,↓pj,ps,pz,↓reduceIte,Q0_,Q1_,Q2_,Q3_,Q4_,Q5_,Q6_,Q7_,Q8_,uh_,]
 ·unfold w9_
  have h1:=y9_ (zt_ a b ar) ls
  have hall:allB ls.length (fun i=>!(gt L i && zt_ a b ar (gt ls i)))=true↔¬ (0≤zn_ (zt_ a b ar) ls∧gt L (zn_ (zt_ a b ar) ls)=true):=by
   rw [allB_iff]
   constructor
   ·rintro hA ⟨h0,h2⟩
    have h3:=hA (zn_ (zt_ a b ar) ls).toNat (by omega)
    rw [show (((zn_ (zt_ a b ar) ls).toNat:Nat):Int)=zn_ (zt_ a b ar) ls by omega,h2,yE_ _ _ h0] at h3
    cases h3
   ·intro hn i hi
    cases hg:gt L (i:Int) && zt_ a b ar (gt ls (i:Int)) with
    | false=>rfl
    | true =>
     rw [bA_] at hg
     have hu:=ank_ h hi hg.2
     exact absurd ⟨by omega,by rw [hu];exact hg.1⟩ hn
  by_cases h0:zn_ (zt_ a b ar) ls < 0
  ·rw [if_pos (hall.2 fun hc=>by omega),if_pos h0]
  ·by_cases h2:gt L (zn_ (zt_ a b ar) ls)=true
   ·rw [if_neg (fun hc=>hall.1 hc ⟨by omega,h2⟩),if_neg h0,if_pos h2]
   ·rw [if_pos (hall.2 fun hc=>h2 hc.2),if_neg h0,if_neg h2]
def seq1 (r:Rcd):Rcd:={ r with seq:=1 }
def zq_ (f:Rcd→Rcd) (s l:List Rcd):List Rcd:=l.foldl (fun c r=>putR c (f r)) s
def an6_ (v:Int) (r:Rcd):Bool:=!(r.kind == 2 && r.owner == v)
def kx_ (s:List Rcd) (A:List Int) (v:Int):List Rcd:=zq_ seq1 (s.filter (an6_ v)) (A.flatMap fun a=>beyondR s A v a)
theorem vs_ (s:List Rcd) (A:List Int) (fr area:Int):(beyondR s A fr area).length≤6:=ai9_ _ _ _ _
theorem aNu_ {W:List Way} {k:Int} {w:Way} (h:wayO W k=some w):w∈W:=by
 rw [kW_] at h
 exact List.mem_of_find?_eq_some h
theorem u3_ {s:List Rcd} {A:List Int} {fr area:Int} {r:Rcd} (h:r∈beyondR s A fr area):r.area=area∧r.kind=2∧r.owner=fr∧(1≤r.key∧r.key≤6)∧r.near=[]∧r.seq=0∧(0≤r.cost∧r.cost≤60000)∧r.far=false∧r.key≠fr:=by
 unfold beyondR at h
 obtain ⟨h1,h2⟩:=toldB_mem.1 h
 obtain ⟨_,h3,h4,h5,h6,h7,h8,h9,w,hw,rfl⟩:=jX_ h2
 refine ⟨h3,h4,h5,h1,h6,h7,?_,h8,?_⟩
 ·have hm:=aNu_ hw
  unfold an9_ at hm
  rcases List.mem_append.1 hm with hm | hm
  ·have:=(ar2_ hm).2.2
   show 0≤w.cost∧w.cost≤60000
   omega
  ·split at hm
   ·cases hm
   ·have:=(ajx_ hm).2.2.1
    show 0≤w.cost∧w.cost≤60000
    omega
 ·unfold vY_ at h9
  simp only [bA_,decide_eq_true_eq] at h9
  exact h9.2
theorem am4_ {s:List Rcd} {A:List Int} {fr area:Int} (hf:1≤fr∧fr≤6) (ha:0≤area∧area≤2) {r:Rcd} (h:r∈beyondR s A fr area):zE_ (seq1 r)=true∧(seq1 r).kind≠3:=by
 obtain ⟨h1,h2,h3,h4,h5,h6,h7,h8,_⟩:=u3_ h
 refine ⟨?_,by show r.kind≠3;omega⟩
 unfold zE_
 simp only [seq1,h1,h2,h3,h5,h8,List.length_nil,bA_,inB_iff]
 refine ⟨⟨hf,by omega⟩,?_⟩
 simp [inB_iff,ha,h4,h7]
theorem Sto.puts {k:Nat} {f:Rcd→Rcd} {l:List Rcd} (hl:∀ r∈l,zE_ (f r)=true∧(f r).kind≠3):∀ {s:List Rcd},Sto k s→Sto k (zq_ f s l):=by
 unfold zq_
 induction l with
 | nil=>intro s h;exact h
 | cons x l ih =>
  intro s h
  rw [List.foldl_cons]
  exact ih (fun r hr=>hl r (.tail _ hr)) (h.put' (hl x (.head _)).1 (hl x (.head _)).2)
theorem je_ {ls:List Link} {v a:Int} (h:a∈zP_ ls v):0≤a∧a≤2:=mem_three.1 (List.mem_filter.1 h).1
theorem Sto.instead {k:Nat} {s:List Rcd} (h:Sto k s) {A:List Int} (hA:∀ a∈A,0≤a∧a≤2) {v:Int} (hv:1≤v∧v≤6):Sto k (kx_ s A v):=by
 refine Sto.puts ?_ (h.filter _)
 intro r hr
 obtain ⟨a,ha,hr⟩:=List.mem_flatMap.1 hr
 exact am4_ hv (hA a ha) hr
theorem ay8_ (f:Rcd→Rcd) (A:List Int) (g:Int→List Rcd):∀ s,A.foldl (fun c a=>zq_ f c (g a)) s=zq_ f s (A.flatMap g):=by
 induction A with
 | nil=>intro s;rfl
 | cons x A ih =>
  intro s
  rw [List.foldl_cons,ih]
  unfold zq_
  rw [List.flatMap_cons,List.foldl_append]
def seqZ (r:Rcd):Rcd:=if r.seq=0 then { r with seq:=1 } else r
theorem ad5_ (s l:List Rcd) (h:s.length+l.length≤1048570) (hs:NearL s) (hn:NearL l):xZ_ [.l (s.map eRcd),.l (l.map eRcd)]=some [.l ((zq_ seqZ s l).map eRcd)]:=by
 rw [ay2_];simp (disch:=omega) only [↓pq,↓pj,ps,pz,↓reduceIte,Q0_,Q1_,Q2_,Q3_,Q4_,Q5_,Q6_,Q7_,Q8_,up_,aeo_]
 refine zj_ l (fun i c=>[.l (c.map eRcd),ii i]) (fun c r=>putR c (seqZ r)) (fun c=>some [T.l (c.map eRcd)]) s (fun i c=>c.length≤s.length+i∧NearL c) rfl (za_ (by omega)) ⟨by simp,hs⟩ ?_ ?_
 ·rintro i c hi ⟨h1,h2⟩
  have hnr:=hn.gt (n:=i) (by omega) hi
  have hz:(seqZ (gt l (i:Int))).near.length≤1048576:=by unfold seqZ;split <;> exact hnr
  refine ⟨⟨by have:=agv_ c (seqZ (gt l (i:Int)));omega,aqx_ h2 hz⟩,fun q=>?_⟩
  have hp:=fun z=>uL_ c (gt l (i:Int)).area (gt l (i:Int)).kind (gt l (i:Int)).owner (gt l (i:Int)).key z (gt l (i:Int)).near (gt l (i:Int)).cost (gt l (i:Int)).far (by omega) h2 hnr
  by_cases k:(gt l (i:Int)).seq=0
  ·have e:seqZ (gt l (i:Int))={ gt l (i:Int) with seq:=1 }:=by unfold seqZ;rw [if_pos k]
   rw [e]
   simp (disch:=omega) only [↓pq,↓pj,ps,pz,↓reduceIte,Q0_,Q1_,Q2_,Q3_,Q4_,Q5_,Q6_,Q7_,Q8_,up_,hi,k,hp]
  ·have e:seqZ (gt l (i:Int))=gt l (i:Int):=by unfold seqZ;rw [if_neg k]
   rw [e]
   simp (disch:=omega) only [↓pq,↓pj,ps,pz,↓reduceIte,Q0_,Q1_,Q2_,Q3_,Q4_,Q5_,Q6_,Q7_,Q8_,up_,hi,k,hp]
 ·rintro c q hc
  simp (disch:=omega) only [↓pq,↓pj,ps,pz,↓reduceIte,Q0_,Q1_,Q2_,Q3_,Q4_,Q5_,Q6_,Q7_,Q8_,up_,]
theorem ajp_ {f g:Rcd→Rcd} {l:List Rcd} (h:∀ r∈l,f r=g r):∀ s,zq_ f s l=zq_ g s l:=by
 unfold zq_
 induction l with
 | nil=>intro s;rfl
 | cons x l ih =>
  intro s
  rw [List.foldl_cons,List.foldl_cons,h x (.head _)]
  exact ih (fun r hr=>h r (.tail _ hr)) _
theorem abp_ (A:List Int) (g:Int→List Rcd) (hg:∀ a,(g a).length≤6):(A.flatMap g).length≤6 * A.length:=by
 induction A with
 | nil=>simp
 | cons x A ih =>
  have:=hg x
  rw [List.flatMap_cons,List.length_append,List.length_cons]
  omega
theorem asz_ (s:List Rcd) (A:List Int) (v:Int) (hs:Sto 24 s) (hA:A.length≤3) :
  vL_ [.l (s.map eRcd),.l (A.map eInt),ii v]=some [.l ((kx_ s A v).map eRcd)]:=by
 have hsl:=hs.len
 have hsn:=hs.near
 rw [asy_];simp (disch:=omega) only [↓pq,↓pj,ps,pz,↓reduceIte,Q0_,Q1_,Q2_,Q3_,Q4_,Q5_,Q6_,Q7_,Q8_,wP_,wM_,aal_]
 refine zj_ A (fun j c=>[.l (c.map eRcd),ii j]) (fun c a=>c++beyondR s A v a) (fun _=>some [T.l ((kx_ s A v).map eRcd)]) [] (fun j c=>c=(A.take j).flatMap fun a=>beyondR s A v a) rfl (za_ (by omega)) rfl ?_ ?_
 ·intro j c hj hc
  have hj':j < A.length:=by omega
  refine ⟨by rw [hc,List.take_add_one,List.flatMap_append,List.getElem?_eq_getElem hj',zm_ hj'];simp,fun q=>?_⟩
  have hbl:=vs_ s A v (gt A (j:Int))
  have hcl:c.length≤18:=by
   rw [hc]
   refine Nat.le_trans (abp_ _ _ fun a=>vs_ s A v a) ?_
   simp;omega
  simp (disch:=omega) only [↓pq,↓pj,ps,pz,↓reduceIte,Q0_,Q1_,Q2_,Q3_,Q4_,Q5_,Q6_,Q7_,Q8_,wP_,wM_,hj,aoq_ s A v _ (show s.length≤1048576 by omega) hsn (show A.length≤1048576 by omega)]
 ·intro c q hc
  rw [List.take_length] at hc
  subst hc
  have hbn:NearL (A.flatMap fun a=>beyondR s A v a):=fun r hr=>by
   obtain ⟨a,_,hr⟩:=List.mem_flatMap.1 hr
   have:=(u3_ hr).2.2.2.2.1
   rw [this];simp
  have hbl:=abp_ A _ fun a=>vs_ s A v a
  have hz:∀ r∈(A.flatMap fun a=>beyondR s A v a),seqZ r=seq1 r:=fun r hr=>by
   obtain ⟨a,_,hr⟩:=List.mem_flatMap.1 hr
   have:=(u3_ hr).2.2.2.2.2.1
   unfold seqZ seq1
   rw [if_pos this]
  unfold kx_
  generalize (A.flatMap fun a=>beyondR s A v a)=B at hbn hbl hz
  simp (disch:=omega) only [↓pq,↓pj,ps,pz,↓reduceIte,Q0_,Q1_,Q2_,Q3_,Q4_,Q5_,Q6_,Q7_,Q8_,wP_,wM_,]
  refine ajo_ s (fun i c=>[.l (c.map eRcd),ii i]) (an6_ v) rfl (za_ (by omega)) ?_ ?_
  ·intro i c hi hc q
   have:=hsn.gt (n:=i) (by omega) hi
   unfold an6_
   simp (disch:=omega) only [↓pq,↓pj,ps,pz,↓reduceIte,Q0_,Q1_,Q2_,Q3_,Q4_,Q5_,Q6_,Q7_,Q8_,wP_,wM_,hi]
   by_cases k1:(gt s (i:Int)).kind=2
   ·by_cases k2:(gt s (i:Int)).owner=v
    ·simp [k1,k2]
    ·simp [k1,k2]
   ·simp [k1]
  ·intro q
   have hfl:=List.length_filter_le (an6_ v) s
   simp (disch:=omega) only [↓pq,↓pj,ps,pz,↓reduceIte,Q0_,Q1_,Q2_,Q3_,Q4_,Q5_,Q6_,Q7_,Q8_,wP_,wM_,ad5_ (s.filter (an6_ v)) B (by omega) (hs.filter _).near hbn,ajp_ hz]
end Go.Proofs.YtjimmglpkndemaaGreatC

/- The records that there would be, by both programs. Conditions: none. -/
import Derived.Test.YtbhplkilhknciaaDoorXSS
namespace Go.Proofs.YtbhplkilhknciaaDoorC
open Int (reduceLE reduceLT reduceEq reduceGT reduceGE reduceAdd reduceSub reduceMul reduceNeg)
set_option linter.unusedVariables false
set_option linter.unusedSimpArgs false
theorem iter_filterx {α β σ:Type} [Inhabited α] {F:(σ→Option β)→σ→Option β} {R:Nat} {x:σ} (l:List α) (st:Nat→List α→σ) (p:α→Bool) {out:Option β} (hx:x=st 0 []) (hR:l.length < R)
  (step:∀ (i:Nat) c,(i:Int) < (l.length:Int)→c.length≤i→∀ s,F s (st i c)=s (st (i+1) (if p (gt l i)=true then c++[gt l i] else c))) (fin:∀ s,F s (st l.length (l.filter p))=out) :
  iter F R x=out:=by
 refine iter_foldlx l st (fun c a=>if p a=true then c++[a] else c) (fun _=>out) [] (fun i c=>c=(l.take i).filter p) hx hR rfl ?_ ?_
 ·intro i c hi hc
  have hi':i < l.length:=by omega
  refine ⟨?_,fun s=>step i c hi (by rw [hc];refine Nat.le_trans (List.length_filter_le _ _) ?_;simp;omega) s⟩
  rw [hc,List.take_add_one,List.filter_append,List.getElem?_eq_getElem hi',gt_elem hi']
  cases hp:p l[i] <;> simp [hp]
 ·intro c s hc
  rw [hc,List.take_length]
  exact fin s
theorem findP_uniq {n:Int} {ls:List Link} (h:ascB (linkOk n) linkLt ls=true) {a b ar:Int} {i:Nat} (hi:i < ls.length) (hj:joins a b ar (gt ls (i:Int))=true):findP (joins a b ar) ls=i:=by
 have h0:=findP_has (gt_mem (l:=ls) (n:=(i:Int)) (by omega) (by omega)) hj
 have h1:=findP_lt (joins a b ar) ls
 have h2:=findP_spec _ _ h0
 obtain ⟨k,hk⟩:∃ k:Nat,findP (joins a b ar) ls=k:=⟨(findP (joins a b ar) ls).toNat,by omega⟩
 rw [hk] at h1 h2 ⊢
 rw [gt_elem (by omega)] at h2
 rw [gt_elem hi] at hj
 have:=joins_one h (by omega) hi h2 hj
 omega
theorem e_s_l13Open (t0 t2:T) (ls:List Link) (L:List Bool) (a b ar n:Int) (h:ascB (linkOk n) linkLt ls=true) (hl:ls.length≤12) (hL:L.length=ls.length):F_s_l13Open [t0,.l (ls.map eLink),t2,.l (L.map eBool),ii a,ii b,ii ar]=some [ii (openC ls L a b ar)]:=by
 rw [g_s_l13Open];simp (disch:=omega) only [↓pq,↓pj,ps,pz,↓reduceIte,reduceLE,reduceLT,reduceEq,reduceGT,reduceGE,reduceAdd,reduceSub,reduceMul,reduceNeg,G_s_l13Open_l0,G_s_l13Open]
 refine (iter_allx ls.length (fun i=>[ii 0,ii i]) (fun i=>!(gt L i && joins a b ar (gt ls i))) (outF:=some [ii (gt ls (findP (joins a b ar) ls)).cost]) (outT:=some [ii 0]) rfl (rounds_lt (by omega)) ?_ ?_).trans ?_
 ·intro i hi s
  have hi2:(i:Int) < L.length:=by omega
  by_cases hj:joins a b ar (gt ls i)=true
  ·rw [findP_uniq h (by omega) hj,hj]
   rw [joins_iff] at hj
   simp (disch:=omega) only [↓pq,↓pj,ps,pz,↓reduceIte,reduceLE,reduceLT,reduceEq,reduceGT,reduceGE,reduceAdd,reduceSub,reduceMul,reduceNeg,G_s_l13Open_l0,hi,hi2]
   grind
  ·have hj':joins a b ar (gt ls i)=false:=by simpa using hj
   rw [hj']
   rw [joins_iff] at hj
   simp (disch:=omega) only [↓pq,↓pj,ps,pz,↓reduceIte,reduceLE,reduceLT,reduceEq,reduceGT,reduceGE,reduceAdd,reduceSub,reduceMul,reduceNeg,G_s_l13Open_l0,hi,hi2]
   grind
 ·intro s
  simp (disch:=omega) only [↓pq,↓pj,ps,pz,↓reduceIte,reduceLE,reduceLT,reduceEq,reduceGT,reduceGE,reduceAdd,reduceSub,reduceMul,reduceNeg,G_s_l13Open_l0,]
 ·unfold openC
  have h1:=findP_lt (joins a b ar) ls
  have hall:allB ls.length (fun i=>!(gt L i && joins a b ar (gt ls i)))=true↔¬ (0≤findP (joins a b ar) ls∧gt L (findP (joins a b ar) ls)=true):=by
   rw [allB_iff]
   constructor
   ·rintro hA ⟨h0,h2⟩
    have h3:=hA (findP (joins a b ar) ls).toNat (by omega)
    rw [show (((findP (joins a b ar) ls).toNat:Nat):Int)=findP (joins a b ar) ls by omega,h2,findP_spec _ _ h0] at h3
    cases h3
   ·intro hn i hi
    cases hg:gt L (i:Int) && joins a b ar (gt ls (i:Int)) with
    | false=>rfl
    | true =>
     rw [Bool.and_eq_true] at hg
     have hu:=findP_uniq h hi hg.2
     exact absurd ⟨by omega,by rw [hu];exact hg.1⟩ hn
  by_cases h0:findP (joins a b ar) ls < 0
  ·rw [if_pos (hall.2 fun hc=>by omega),if_pos h0]
  ·by_cases h2:gt L (findP (joins a b ar) ls)=true
   ·rw [if_neg (fun hc=>hall.1 hc ⟨by omega,h2⟩),if_neg h0,if_pos h2]
   ·rw [if_pos (hall.2 fun hc=>h2 hc.2),if_neg h0,if_neg h2]
def seq1 (r:Rcd):Rcd:={ r with seq:=1 }
def putAll (f:Rcd→Rcd) (s l:List Rcd):List Rcd:=l.foldl (fun c r=>putR c (f r)) s
def notOf (v:Int) (r:Rcd):Bool:=!(r.kind == 2 && r.owner == v)
def insteadR (s:List Rcd) (A:List Int) (v:Int):List Rcd:=putAll seq1 (s.filter (notOf v)) (A.flatMap fun a=>beyondR s A v a)
theorem beyondR_len (s:List Rcd) (A:List Int) (fr area:Int):(beyondR s A fr area).length≤6:=toldB_len _ _ _ _
theorem wayO_of {W:List Way} {k:Int} {w:Way} (h:wayO W k=some w):w∈W:=by
 rw [wayO_find] at h
 exact List.mem_of_find?_eq_some h
theorem beyondR_rec {s:List Rcd} {A:List Int} {fr area:Int} {r:Rcd} (h:r∈beyondR s A fr area):r.area=area∧r.kind=2∧r.owner=fr∧(1≤r.key∧r.key≤6)∧r.near=[]∧r.seq=0∧(0≤r.cost∧r.cost≤60000)∧r.far=false∧r.key≠fr:=by
 unfold beyondR at h
 obtain ⟨h1,h2⟩:=toldB_mem.1 h
 obtain ⟨_,h3,h4,h5,h6,h7,h8,h9,w,hw,rfl⟩:=tellR_key h2
 refine ⟨h3,h4,h5,h1,h6,h7,?_,h8,?_⟩
 ·have hm:=wayO_of hw
  unfold tellW at hm
  rcases List.mem_append.1 hm with hm | hm
  ·have:=(within_ok hm).2.2
   show 0≤w.cost∧w.cost≤60000
   omega
  ·split at hm
   ·cases hm
   ·have:=(beyond_ok hm).2.2.1
    show 0≤w.cost∧w.cost≤60000
    omega
 ·unfold tellC at h9
  simp only [Bool.and_eq_true,decide_eq_true_eq] at h9
  exact h9.2
theorem beyondR_ok {s:List Rcd} {A:List Int} {fr area:Int} (hf:1≤fr∧fr≤6) (ha:0≤area∧area≤2) {r:Rcd} (h:r∈beyondR s A fr area):recOk (seq1 r)=true∧(seq1 r).kind≠3:=by
 obtain ⟨h1,h2,h3,h4,h5,h6,h7,h8,_⟩:=beyondR_rec h
 refine ⟨?_,by show r.kind≠3;omega⟩
 unfold recOk
 simp only [seq1,h1,h2,h3,h5,h8,List.length_nil,Bool.and_eq_true,inB_iff]
 refine ⟨⟨hf,by omega⟩,?_⟩
 simp [inB_iff,ha,h4,h7]
theorem Sto.puts {k:Nat} {f:Rcd→Rcd} {l:List Rcd} (hl:∀ r∈l,recOk (f r)=true∧(f r).kind≠3):∀ {s:List Rcd},Sto k s→Sto k (putAll f s l):=by
 unfold putAll
 induction l with
 | nil=>intro s h;exact h
 | cons x l ih =>
  intro s h
  rw [List.foldl_cons]
  exact ih (fun r hr=>hl r (.tail _ hr)) (h.put' (hl x (.head _)).1 (hl x (.head _)).2)
theorem areasOf_mem {ls:List Link} {v a:Int} (h:a∈areasOf ls v):0≤a∧a≤2:=mem_three.1 (List.mem_filter.1 h).1
theorem Sto.instead {k:Nat} {s:List Rcd} (h:Sto k s) {A:List Int} (hA:∀ a∈A,0≤a∧a≤2) {v:Int} (hv:1≤v∧v≤6):Sto k (insteadR s A v):=by
 refine Sto.puts ?_ (h.filter _)
 intro r hr
 obtain ⟨a,ha,hr⟩:=List.mem_flatMap.1 hr
 exact beyondR_ok hv (hA a ha) hr
def seqZ (r:Rcd):Rcd:=if r.seq=0 then { r with seq:=1 } else r
theorem e_s_l08With (s l:List Rcd) (h:s.length+l.length≤1048570) (hs:NearL s) (hn:NearL l):F_s_l08With [.l (s.map eRcd),.l (l.map eRcd)]=some [.l ((putAll seqZ s l).map eRcd)]:=by
 rw [g_s_l08With];simp (disch:=omega) only [↓pq,↓pj,ps,pz,↓reduceIte,reduceLE,reduceLT,reduceEq,reduceGT,reduceGE,reduceAdd,reduceSub,reduceMul,reduceNeg,G_s_l08With_l0,G_s_l08With]
 refine iter_foldlx l (fun i c=>[.l (c.map eRcd),ii i]) (fun c r=>putR c (seqZ r)) (fun c=>some [T.l (c.map eRcd)]) s (fun i c=>c.length≤s.length+i∧NearL c) rfl (rounds_lt (by omega)) ⟨by simp,hs⟩ ?_ ?_
 ·rintro i c hi ⟨h1,h2⟩
  have hnr:=hn.gt (n:=i) (by omega) hi
  have hz:(seqZ (gt l (i:Int))).near.length≤1048576:=by unfold seqZ;split <;> exact hnr
  refine ⟨⟨by have:=putR_len c (seqZ (gt l (i:Int)));omega,putR_near h2 hz⟩,fun q=>?_⟩
  have hp:=fun z=>e_s_l05Put c (gt l (i:Int)).area (gt l (i:Int)).kind (gt l (i:Int)).owner (gt l (i:Int)).key z (gt l (i:Int)).near (gt l (i:Int)).cost (gt l (i:Int)).far (by omega) h2 hnr
  by_cases k:(gt l (i:Int)).seq=0
  ·have e:seqZ (gt l (i:Int))={ gt l (i:Int) with seq:=1 }:=by unfold seqZ;rw [if_pos k]
   rw [e]
   simp (disch:=omega) only [↓pq,↓pj,ps,pz,↓reduceIte,reduceLE,reduceLT,reduceEq,reduceGT,reduceGE,reduceAdd,reduceSub,reduceMul,reduceNeg,G_s_l08With_l0,hi,k,hp]
  ·have e:seqZ (gt l (i:Int))=gt l (i:Int):=by unfold seqZ;rw [if_neg k]
   rw [e]
   simp (disch:=omega) only [↓pq,↓pj,ps,pz,↓reduceIte,reduceLE,reduceLT,reduceEq,reduceGT,reduceGE,reduceAdd,reduceSub,reduceMul,reduceNeg,G_s_l08With_l0,hi,k,hp]
 ·rintro c q hc
  simp (disch:=omega) only [↓pq,↓pj,ps,pz,↓reduceIte,reduceLE,reduceLT,reduceEq,reduceGT,reduceGE,reduceAdd,reduceSub,reduceMul,reduceNeg,G_s_l08With_l0,]
theorem putAll_congr {f g:Rcd→Rcd} {l:List Rcd} (h:∀ r∈l,f r=g r):∀ s,putAll f s l=putAll g s l:=by
 unfold putAll
 induction l with
 | nil=>intro s;rfl
 | cons x l ih =>
  intro s
  rw [List.foldl_cons,List.foldl_cons,h x (.head _)]
  exact ih (fun r hr=>h r (.tail _ hr)) _
theorem flat_len (A:List Int) (g:Int→List Rcd) (hg:∀ a,(g a).length≤6):(A.flatMap g).length≤6 * A.length:=by
 induction A with
 | nil=>simp
 | cons x A ih =>
  have:=hg x
  rw [List.flatMap_cons,List.length_append,List.length_cons]
  omega
theorem e_s_l13Beyond (s:List Rcd) (A:List Int) (v:Int) (hs:Sto 24 s) (hA:A.length≤3) :
  F_s_l13Beyond [.l (s.map eRcd),.l (A.map eInt),ii v]=some [.l ((insteadR s A v).map eRcd)]:=by
 have hsl:=hs.len
 have hsn:=hs.near
 rw [g_s_l13Beyond];simp (disch:=omega) only [↓pq,↓pj,ps,pz,↓reduceIte,reduceLE,reduceLT,reduceEq,reduceGT,reduceGE,reduceAdd,reduceSub,reduceMul,reduceNeg,G_s_l13Beyond_l0,G_s_l13Beyond_l1,G_s_l13Beyond]
 refine iter_foldlx A (fun j c=>[.l (c.map eRcd),ii j]) (fun c a=>c++beyondR s A v a) (fun _=>some [T.l ((insteadR s A v).map eRcd)]) [] (fun j c=>c=(A.take j).flatMap fun a=>beyondR s A v a) rfl (rounds_lt (by omega)) rfl ?_ ?_
 ·intro j c hj hc
  have hj':j < A.length:=by omega
  refine ⟨by rw [hc,List.take_add_one,List.flatMap_append,List.getElem?_eq_getElem hj',gt_elem hj'];simp,fun q=>?_⟩
  have hbl:=beyondR_len s A v (gt A (j:Int))
  have hcl:c.length≤18:=by
   rw [hc]
   refine Nat.le_trans (flat_len _ _ fun a=>beyondR_len s A v a) ?_
   simp;omega
  simp (disch:=omega) only [↓pq,↓pj,ps,pz,↓reduceIte,reduceLE,reduceLT,reduceEq,reduceGT,reduceGE,reduceAdd,reduceSub,reduceMul,reduceNeg,G_s_l13Beyond_l0,G_s_l13Beyond_l1,hj,e_s_Beyond s A v _ (show s.length≤1048576 by omega) hsn (show A.length≤1048576 by omega)]
 ·intro c q hc
  rw [List.take_length] at hc
  subst hc
  have hbn:NearL (A.flatMap fun a=>beyondR s A v a):=fun r hr=>by
   obtain ⟨a,_,hr⟩:=List.mem_flatMap.1 hr
   have:=(beyondR_rec hr).2.2.2.2.1
   rw [this];simp
  have hbl:=flat_len A _ fun a=>beyondR_len s A v a
  have hz:∀ r∈(A.flatMap fun a=>beyondR s A v a),seqZ r=seq1 r:=fun r hr=>by
   obtain ⟨a,_,hr⟩:=List.mem_flatMap.1 hr
   have:=(beyondR_rec hr).2.2.2.2.2.1
   unfold seqZ seq1
   rw [if_pos this]
  unfold insteadR
  generalize (A.flatMap fun a=>beyondR s A v a)=B at hbn hbl hz
  simp (disch:=omega) only [↓pq,↓pj,ps,pz,↓reduceIte,reduceLE,reduceLT,reduceEq,reduceGT,reduceGE,reduceAdd,reduceSub,reduceMul,reduceNeg,G_s_l13Beyond_l0,G_s_l13Beyond_l1,]
  refine iter_filterx s (fun i c=>[.l (c.map eRcd),ii i]) (notOf v) rfl (rounds_lt (by omega)) ?_ ?_
  ·intro i c hi hc q
   have:=hsn.gt (n:=i) (by omega) hi
   unfold notOf
   simp (disch:=omega) only [↓pq,↓pj,ps,pz,↓reduceIte,reduceLE,reduceLT,reduceEq,reduceGT,reduceGE,reduceAdd,reduceSub,reduceMul,reduceNeg,G_s_l13Beyond_l0,G_s_l13Beyond_l1,hi]
   by_cases k1:(gt s (i:Int)).kind=2
   ·by_cases k2:(gt s (i:Int)).owner=v
    ·simp [k1,k2]
    ·simp [k1,k2]
   ·simp [k1]
  ·intro q
   have hfl:=List.length_filter_le (notOf v) s
   simp (disch:=omega) only [↓pq,↓pj,ps,pz,↓reduceIte,reduceLE,reduceLT,reduceEq,reduceGT,reduceGE,reduceAdd,reduceSub,reduceMul,reduceNeg,G_s_l13Beyond_l0,G_s_l13Beyond_l1,e_s_l08With (s.filter (notOf v)) B (by omega) (hs.filter _).near hbn,putAll_congr hz]
end Go.Proofs.YtbhplkilhknciaaDoorC

/- The records that there would be, by both programs. Conditions: none. -/
import Derived.Test.YtiebbbmibbkpcaaGreatXSS
namespace Go.Proofs.YtiebbbmibbkpcaaGreatC
open Int (reduceLE reduceLT reduceEq reduceGT reduceGE reduceAdd reduceSub reduceMul reduceNeg)
set_option linter.unusedVariables false
set_option linter.unusedSimpArgs false
theorem avr_ {α β σ:Type} [Inhabited α] {F:(σ→Option β)→σ→Option β} {R:Nat} {x:σ} (l:List α) (st:Nat→List α→σ) (p:α→Bool) {out:Option β} (hx:x=st 0 []) (hR:l.length < R)
  (step:∀ (i:Nat) c,(i:Int) < (l.length:Int)→c.length≤i→∀ s,F s (st i c)=s (st (i+1) (if p (gt l i)=true then c++[gt l i] else c))) (fin:∀ s,F s (st l.length (l.filter p))=out) :
  iter F R x=out:=by
 refine zg_ l st (fun c a=>if p a=true then c++[a] else c) (fun _=>out) [] (fun i c=>c=(l.take i).filter p) hx hR rfl ?_ ?_
 ·intro i c hi hc
  have hi':i < l.length:=by omega
  refine ⟨?_,fun s=>step i c hi (by rw [hc];refine Nat.le_trans (List.length_filter_le _ _) ?_;simp;omega) s⟩
  rw [hc,List.take_add_one,List.filter_append,List.getElem?_eq_getElem hi',zm_ hi']
  cases hp:p l[i] <;> simp [hp]
 ·intro c s hc
  rw [hc,List.take_length]
  exact fin s
def seq1 (r:Rcd):Rcd:={ r with seq:=1 }
def zv_ (f:Rcd→Rcd) (s l:List Rcd):List Rcd:=l.foldl (fun c r=>putR c (f r)) s
def aSe_ (v:Int) (r:Rcd):Bool:=!(r.kind == 2 && r.owner == v)
def aMl_ (s:List Rcd) (A:List Int) (v:Int):List Rcd:=zv_ seq1 (s.filter (aSe_ v)) (A.flatMap fun a=>beyondR s A v a)
theorem jd_ (s:List Rcd) (A:List Int) (fr area:Int):(beyondR s A fr area).length≤6:=ale_ _ _ _ _
theorem aPi_ {W:List Way} {k:Int} {w:Way} (h:wayO W k=some w):w∈W:=by
 rw [aak_] at h
 exact List.mem_of_find?_eq_some h
theorem ame_ {s:List Rcd} {A:List Int} {fr area:Int} {r:Rcd} (h:r∈beyondR s A fr area):r.area=area∧r.kind=2∧r.owner=fr∧(1≤r.key∧r.key≤6)∧r.near=[]∧r.seq=0∧(0≤r.cost∧r.cost≤60000)∧r.far=false∧r.key≠fr:=by
 unfold beyondR at h
 obtain ⟨h1,h2⟩:=toldB_mem.1 h
 obtain ⟨_,h3,h4,h5,h6,h7,h8,h9,w,hw,rfl⟩:=jZ_ h2
 refine ⟨h3,h4,h5,h1,h6,h7,?_,h8,?_⟩
 ·have hm:=aPi_ hw
  unfold at6_ at hm
  rcases List.mem_append.1 hm with hm | hm
  ·have:=(aab_ hm).2.2
   show 0≤w.cost∧w.cost≤60000
   omega
  ·split at hm
   ·cases hm
   ·have:=(j5_ hm).2.2.1
    show 0≤w.cost∧w.cost≤60000
    omega
 ·unfold vN_ at h9
  simp only [Bool.and_eq_true,decide_eq_true_eq] at h9
  exact h9.2
theorem aGw_ {s:List Rcd} {A:List Int} {fr area:Int} (hf:1≤fr∧fr≤6) (ha:0≤area∧area≤2) {r:Rcd} (h:r∈beyondR s A fr area):zR_ (seq1 r)=true∧(seq1 r).kind≠3:=by
 obtain ⟨h1,h2,h3,h4,h5,h6,h7,h8,_⟩:=ame_ h
 refine ⟨?_,by show r.kind≠3;omega⟩
 unfold zR_
 simp only [seq1,h1,h2,h3,h5,h8,List.length_nil,Bool.and_eq_true,inB_iff]
 refine ⟨⟨hf,by omega⟩,?_⟩
 simp [inB_iff,ha,h4,h7]
theorem Sto.puts {k:Nat} {f:Rcd→Rcd} {l:List Rcd} (hl:∀ r∈l,zR_ (f r)=true∧(f r).kind≠3):∀ {s:List Rcd},Sto k s→Sto k (zv_ f s l):=by
 unfold zv_
 induction l with
 | nil=>intro s h;exact h
 | cons x l ih =>
  intro s h
  rw [List.foldl_cons]
  exact ih (fun r hr=>hl r (.tail _ hr)) (h.put' (hl x (.head _)).1 (hl x (.head _)).2)
theorem amu_ {ls:List Link} {v a:Int} (h:a∈z1_ ls v):0≤a∧a≤2:=mem_three.1 (List.mem_filter.1 h).1
theorem aBv_ (f:Rcd→Rcd) (A:List Int) (g:Int→List Rcd):∀ s,A.foldl (fun c a=>zv_ f c (g a)) s=zv_ f s (A.flatMap g):=by
 induction A with
 | nil=>intro s;rfl
 | cons x A ih =>
  intro s
  rw [List.foldl_cons,ih]
  unfold zv_
  rw [List.flatMap_cons,List.foldl_append]
def seqZ (r:Rcd):Rcd:=if r.seq=0 then { r with seq:=1 } else r
theorem amg_ (s l:List Rcd) (h:s.length+l.length≤1048570) (hs:NearL s) (hn:NearL l):wK_ [.l (s.map eRcd),.l (l.map eRcd)]=some [.l ((zv_ seqZ s l).map eRcd)]:=by
 rw [azr_];simp (disch:=omega) only [↓pq,ps,pz,↓reduceIte,reduceLE,reduceLT,reduceEq,reduceGT,reduceGE,reduceAdd,reduceSub,reduceMul,reduceNeg,ur_,aep_]
 refine zg_ l (fun i c=>[.l (c.map eRcd),ii i]) (fun c r=>putR c (seqZ r)) (fun c=>some [T.l (c.map eRcd)]) s (fun i c=>c.length≤s.length+i∧NearL c) rfl (zb_ (by omega)) ⟨by simp,hs⟩ ?_ ?_
 ·rintro i c hi ⟨h1,h2⟩
  have hnr:=hn.gt (n:=i) (by omega) hi
  have hz:(seqZ (gt l (i:Int))).near.length≤1048576:=by unfold seqZ;split <;> exact hnr
  refine ⟨⟨by have:=axs_ c (seqZ (gt l (i:Int)));omega,arz_ h2 hz⟩,fun q=>?_⟩
  have hp:=fun z=>aaz_ c (gt l (i:Int)).area (gt l (i:Int)).kind (gt l (i:Int)).owner (gt l (i:Int)).key z (gt l (i:Int)).near (gt l (i:Int)).cost (gt l (i:Int)).far (by omega) h2 hnr
  by_cases k:(gt l (i:Int)).seq=0
  ·have e:seqZ (gt l (i:Int))={ gt l (i:Int) with seq:=1 }:=by unfold seqZ;rw [if_pos k]
   rw [e]
   simp (disch:=omega) only [↓pq,ps,pz,↓reduceIte,reduceLE,reduceLT,reduceEq,reduceGT,reduceGE,reduceAdd,reduceSub,reduceMul,reduceNeg,ur_,hi,k,hp]
  ·have e:seqZ (gt l (i:Int))=gt l (i:Int):=by unfold seqZ;rw [if_neg k]
   rw [e]
   simp (disch:=omega) only [↓pq,ps,pz,↓reduceIte,reduceLE,reduceLT,reduceEq,reduceGT,reduceGE,reduceAdd,reduceSub,reduceMul,reduceNeg,ur_,hi,k,hp]
 ·rintro c q hc
  simp (disch:=omega) only [↓pq,ps,pz,↓reduceIte,reduceLE,reduceLT,reduceEq,reduceGT,reduceGE,reduceAdd,reduceSub,reduceMul,reduceNeg,ur_,]
theorem avu_ {f g:Rcd→Rcd} {l:List Rcd} (h:∀ r∈l,f r=g r):∀ s,zv_ f s l=zv_ g s l:=by
 unfold zv_
 induction l with
 | nil=>intro s;rfl
 | cons x l ih =>
  intro s
  rw [List.foldl_cons,List.foldl_cons,h x (.head _)]
  exact ih (fun r hr=>h r (.tail _ hr)) _
theorem anl_ (A:List Int) (g:Int→List Rcd) (hg:∀ a,(g a).length≤6):(A.flatMap g).length≤6 * A.length:=by
 induction A with
 | nil=>simp
 | cons x A ih =>
  have:=hg x
  rw [List.flatMap_cons,List.length_append,List.length_cons]
  omega
end Go.Proofs.YtiebbbmibbkpcaaGreatC

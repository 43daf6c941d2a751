/- What the functions that look into stores and put into them compute. Conditions: none. -/
import Derived.Test.YtbhplkilhknciaaDoorXSD
namespace Go.Proofs.YtbhplkilhknciaaDoorC
open Int (reduceLE reduceLT reduceEq reduceGT reduceGE reduceAdd reduceSub reduceMul reduceNeg)
set_option linter.unusedVariables false
set_option linter.unusedSimpArgs false
theorem e_s_l05At (s:List Rcd) (a k o y:Int) (t4 t5 t6 t7:T) (h:s.length≤1048576):F_s_l05At [.l (s.map eRcd),ii a,ii k,ii o,ii y,t4,t5,t6,t7]=some [ii (findP (fun x=>sameKey x ⟨a,k,o,y,0,[],0,false⟩) s)]:=by
 rw [g_s_l05At];simp (disch:=omega) only [↓pq,↓pj,ps,pz,↓reduceIte,reduceLE,reduceLT,reduceEq,reduceGT,reduceGE,reduceAdd,reduceSub,reduceMul,reduceNeg,G_s_l05At_l0,G_s_l05At]
 refine (iter_findPx s (fun i=>[ii 0,ii i]) (fun x=>sameKey x ⟨a,k,o,y,0,[],0,false⟩) (fun i=>some [ii i]) (outN:=some [ii (-1)]) rfl (rounds_lt h) ?_ ?_).trans (findP_ite _ _)
 ·intro i hi q
  simp (disch:=omega) only [↓pq,↓pj,ps,pz,↓reduceIte,reduceLE,reduceLT,reduceEq,reduceGT,reduceGE,reduceAdd,reduceSub,reduceMul,reduceNeg,G_s_l05At_l0,hi,e_s_SameKey]
  rfl
 ·intro q
  simp (disch:=omega) only [↓pq,↓pj,ps,pz,↓reduceIte,reduceLE,reduceLT,reduceEq,reduceGT,reduceGE,reduceAdd,reduceSub,reduceMul,reduceNeg,G_s_l05At_l0,]
theorem e_s_l04CopyList (s:List Rcd) (h:s.length≤1048576) (hn:NearL s):F_s_l04CopyList [.l (s.map eRcd)]=some [.l (s.map eRcd)]:=by
 rw [g_s_l04CopyList];simp (disch:=omega) only [↓pq,↓pj,ps,pz,↓reduceIte,reduceLE,reduceLT,reduceEq,reduceGT,reduceGE,reduceAdd,reduceSub,reduceMul,reduceNeg,G_s_l04CopyList_l0,G_s_l04CopyList]
 refine (iter_foldlx s (fun i c=>[.l (c.map eRcd),ii i]) (fun c a=>c++[id a]) (fun c=>some [T.l (c.map eRcd)]) [] (fun i c=>c.length≤i) rfl (rounds_lt h) (by simp) ?_ ?_).trans (show some [T.l ((s.foldl (fun c a=>c++[id a]) []).map eRcd)]=some [T.l (s.map eRcd)] by rw [foldl_map];simp)
 ·intro i c hi hc
  refine ⟨by simp;omega,fun k=>?_⟩
  have:=hn.gt (n:=i) (by omega) hi
  simp (disch:=omega) only [↓pq,↓pj,ps,pz,↓reduceIte,reduceLE,reduceLT,reduceEq,reduceGT,reduceGE,reduceAdd,reduceSub,reduceMul,reduceNeg,G_s_l04CopyList_l0,hi,e_s_l04Copy]
  rfl
 ·intro c k hc
  simp (disch:=omega) only [↓pq,↓pj,ps,pz,↓reduceIte,reduceLE,reduceLT,reduceEq,reduceGT,reduceGE,reduceAdd,reduceSub,reduceMul,reduceNeg,G_s_l04CopyList_l0,]
def putR (s:List Rcd) (r:Rcd):List Rcd:=s.filter (fun x=>recLt x r)++([r]++s.filter (fun x=>recLt r x))
abbrev Sorted (s:List Rcd):Prop:=s.Pairwise fun a b=>recLt a b=true
theorem recLt_trans {a b c:Rcd} (h:recLt a b=true) (h':recLt b c=true):recLt a c=true:=by rw [recLt_iff] at *;omega
theorem recLt_not {a b:Rcd} (h:recLt a b=true):recLt b a=false:=by
 cases h':recLt b a with
 | false=>rfl
 | true=>rw [recLt_iff] at *;omega
theorem putR_sorted {s:List Rcd} (h:Sorted s) (r:Rcd):Sorted (putR s r):=by
 unfold putR Sorted
 rw [List.pairwise_append]
 refine ⟨h.filter _,?_,?_⟩
 ·rw [List.pairwise_append]
  refine ⟨by simp,h.filter _,?_⟩
  intro a ha b hb
  rw [List.mem_singleton] at ha
  subst ha
  exact (List.mem_filter.1 hb).2
 ·intro a ha b hb
  have ha:=(List.mem_filter.1 ha).2
  rcases List.mem_append.1 hb with hb | hb
  ·rw [List.mem_singleton] at hb
   subst hb;exact ha
  ·exact recLt_trans ha (List.mem_filter.1 hb).2
theorem putR_len (s:List Rcd) (r:Rcd):(putR s r).length≤s.length+1:=by
 unfold putR
 have:(s.filter (fun x=>recLt x r)).length+(s.filter (fun x=>recLt r x)).length≤s.length:=by
  induction s with
  | nil=>simp
  | cons x s ih =>
   simp only [List.filter_cons]
   cases h:recLt x r with
   | true=>simp [recLt_not h];omega
   | false=>cases h':recLt r x <;> simp <;> omega
 simp;omega
theorem mem_putR {s:List Rcd} {r x:Rcd} (h:x∈putR s r):x=r∨x∈s:=by
 unfold putR at h
 rcases List.mem_append.1 h with h | h
 ·exact .inr (List.mem_filter.1 h).1
 ·rcases List.mem_append.1 h with h | h
  ·exact .inl (List.mem_singleton.1 h)
  ·exact .inr (List.mem_filter.1 h).1
theorem putR_near {s:List Rcd} {r:Rcd} (h:NearL s) (hr:r.near.length≤1048576):NearL (putR s r):=fun x hx=>by
 rcases mem_putR hx with rfl | hx
 ·exact hr
 ·exact h x hx
def ahead (s:List Rcd) (r:Rcd):Nat:=(s.filter (fun x=>recLt x r)).length
theorem NearL.take {s:List Rcd} (h:NearL s) (n:Nat):NearL (s.take n):=fun r hr=>h r (List.mem_of_mem_take hr)
theorem NearL.drop {s:List Rcd} (h:NearL s) (n:Nat):NearL (s.drop n):=fun r hr=>h r (List.mem_of_mem_drop hr)
theorem iter_while {β σ:Type} {F:(σ→Option β)→σ→Option β} {R:Nat} {x:σ} (st:Nat→σ) (n:Nat) {out:Option β} (hx:x=st 0) (hR:n < R) (step:∀ i:Nat,(i:Int) < (n:Int)→∀ s,F s (st i)=s (st (i+1))) (fin:∀ s,F s (st n)=out):iter F R x=out:=by
 have:=iter_allx (F:=F) (R:=R) (x:=x) n st (fun _=>true) (outT:=out) (outF:=out) hx hR (fun i hi s=>by simpa using step i hi s) fin
 rw [this];simp
theorem e_s_l05Put (s:List Rcd) (a k o y q:Int) (l:List Near) (c:Int) (f:Bool) (h:s.length≤1048570) (hn:NearL s) (hl:l.length≤1048576) :
  F_s_l05Put [.l (s.map eRcd),ii a,ii k,ii o,ii y,ii q,.l (l.map eNear),ii c,bb f]=some [.l ((putR s ⟨a,k,o,y,q,l,c,f⟩).map eRcd)]:=by
 obtain ⟨r,hr⟩:∃ r:Rcd,r=⟨a,k,o,y,q,l,c,f⟩:=⟨_,rfl⟩
 have hb:∀ x:Rcd,recLt ⟨x.area,x.kind,x.owner,x.key,0,[],0,false⟩ ⟨a,k,o,y,0,[],0,false⟩=recLt x r:=fun x=>by rw [hr];rfl
 have hb':∀ x:Rcd,recLt ⟨a,k,o,y,0,[],0,false⟩ ⟨x.area,x.kind,x.owner,x.key,0,[],0,false⟩=recLt r x:=fun x=>by rw [hr];rfl
 rw [g_s_l05Put];simp (disch:=omega) only [↓pq,↓pj,ps,pz,↓reduceIte,reduceLE,reduceLT,reduceEq,reduceGT,reduceGE,reduceAdd,reduceSub,reduceMul,reduceNeg,G_s_l05Put_l0,G_s_l05Put_l1,G_s_l05Put]
 refine (iter_foldlx s (fun i c=>[.l (c.map eRcd),ii i]) (fun c x=>if recLt x r=true then c++[x] else c) (fun d=>some [T.l ((s.foldl (fun c x=>if recLt r x=true then c++[x] else c) (d++[r])).map eRcd)]) [] (fun i c=>c.length≤i) rfl (rounds_lt (by omega)) (by simp) ?_ ?_).trans ?_
 ·intro i c hi hc
  refine ⟨by split <;> (try simp) <;> omega,fun w=>?_⟩
  have:=hn.gt (n:=i) (by omega) hi
  simp (disch:=omega) only [↓pq,↓pj,ps,pz,↓reduceIte,reduceLE,reduceLT,reduceEq,reduceGT,reduceGE,reduceAdd,reduceSub,reduceMul,reduceNeg,G_s_l05Put_l0,G_s_l05Put_l1,hi,e_s_Before,hb]
  split <;> rfl
 ·intro d w hd
  simp (disch:=omega) only [↓pq,↓pj,ps,pz,↓reduceIte,reduceLE,reduceLT,reduceEq,reduceGT,reduceGE,reduceAdd,reduceSub,reduceMul,reduceNeg,G_s_l05Put_l0,G_s_l05Put_l1,]
  rw [← hr]
  refine iter_foldlx s (fun i c=>[.l (c.map eRcd),ii i]) (fun c x=>if recLt r x=true then c++[x] else c) (fun c=>some [T.l (c.map eRcd)]) (d++[r]) (fun i c=>c.length≤d.length+1+i) rfl (rounds_lt (by omega)) (by simp) ?_ ?_
  ·intro i c hi hc
   refine ⟨by split <;> (try simp) <;> omega,fun w=>?_⟩
   have:=hn.gt (n:=i) (by omega) hi
   simp (disch:=omega) only [↓pq,↓pj,ps,pz,↓reduceIte,reduceLE,reduceLT,reduceEq,reduceGT,reduceGE,reduceAdd,reduceSub,reduceMul,reduceNeg,G_s_l05Put_l0,G_s_l05Put_l1,hi,e_s_Before,hb']
   split <;> rfl
  ·intro c w hc
   simp (disch:=omega) only [↓pq,↓pj,ps,pz,↓reduceIte,reduceLE,reduceLT,reduceEq,reduceGT,reduceGE,reduceAdd,reduceSub,reduceMul,reduceNeg,G_s_l05Put_l0,G_s_l05Put_l1,]
 ·rw [foldl_filter,foldl_filter,← hr]
  unfold putR
  simp
end Go.Proofs.YtbhplkilhknciaaDoorC

/- The walk by reflection: a part of its laws, for any function. Conditions: none. -/
import Derived.Test.YtbhplkilhknciaaDoorKa
import Derived.Laws.Slices
import Derived.Deep.AppendSrc
namespace Go.Proofs.YtbhplkilhknciaaDoorC
set_option linter.unusedVariables false
theorem at2_setRow {xs:List (List T)} {i off:Nat} {r ts:List T} (hr:xs[i]?=some r) (hf:off+ts.length≤r.length) (i' j':Nat) :
  at2 (setRow xs i off ts) i' j'=if i'=i∧off≤j'∧j' < off+ts.length then ts[j' - off]? else at2 xs i' j':=by
 unfold at2 setRow
 rw [List.getElem?_modify]
 by_cases hi:i=i'
 ·subst hi
  simp only [hr,if_true,Option.map_eq_map,Option.map_some,Option.bind_some,true_and]
  have hl:(r.take off).length=off:=by simp;omega
  by_cases h1:j' < off
  ·rw [if_neg (by omega),List.append_assoc,List.getElem?_append_left (by omega),List.getElem?_take,if_pos h1]
  ·rw [List.append_assoc,List.getElem?_append_right (by omega),hl]
   by_cases h2:j' < off+ts.length
   ·rw [if_pos ⟨by omega,h2⟩,List.getElem?_append_left (by omega)]
   ·rw [if_neg (by omega),List.getElem?_append_right (by omega),List.getElem?_drop]
    congr 1
    omega
 ·rw [if_neg (by omega:¬ (i'=i∧_))]
  cases xs[i']? <;> simp [hi]
theorem setRow_length {xs:List (List T)} {i off:Nat} {ts:List T}:(setRow xs i off ts).length=xs.length:=by simp [setRow]
theorem setRow_rows {xs:List (List T)} {i off wd:Nat} {r ts:List T} (hw:∀ r∈xs,r.length=wd) (hr:xs[i]?=some r) (hf:off+ts.length≤r.length) :
  ∀ r∈setRow xs i off ts,r.length=wd:=by
 intro r' hr'
 obtain ⟨n,hn⟩:=List.getElem?_of_mem hr'
 unfold setRow at hn
 rw [List.getElem?_modify] at hn
 by_cases hi:i=n
 ·subst hi
  simp only [hr,if_true,Option.map_eq_map,Option.map_some,Option.some.injEq] at hn
  have:=hw r (List.mem_of_getElem? hr)
  subst hn
  simp
  omega
 ·simp only [if_neg hi] at hn
  cases hx:xs[n]? with
  | none=>simp [hx] at hn
  | some r''=>simp [hx] at hn;subst hn;exact hw _ (List.mem_of_getElem? hx)
theorem Own.sib {G:Gh} {w w':World} {id:Nat} {p:List (Nat × Nat)} {t:T} {dp:Bool} (h:Own G w id dp p t) (hdp:dp=true)
  (hh:∀ c q,G.ω c=some (.o id (p++q))→w'.heap[c]?=w.heap[c]?):Own G w' id dp p t:=by
 induction h with
 | nil h=>exact .nil h
 | @l dp p xs b wd cap arr elem cv h1 h2 h3 h4 h5 h6 h7 h8 h9 h10 h11 ih =>
  refine .l h1 h2 h3 ((hh b [] (by simpa using h3)).trans h4) h5 h6 h7 h8 (fun i j ys hy hd=>by rw [hdp] at hd;cases hd) h10 fun i j ys hy hd=>?_
  exact ih i j ys hy hd rfl fun c q hc=>hh c ((i,j) :: q) (by simpa using hc)
theorem Own.put {G:Gh} {w w':World} {id:Nat} {dp:Bool} {p:List (Nat × Nat)} {xs:List (List T)} {b n cap:Nat} (h:Own G w id dp p (.l xs))
  (hH:G.H id p=.slice (some ⟨b,0,none⟩) n cap) (hqt:qt (.o id p)=false) {i off:Nat} {r ts:List T} {vs:List Value} (hr:xs[i]?=some r) (hf:off+ts.length≤r.length) (hl:vs.length=ts.length)
  {arr:Array Value} {elem:TypeId} (hb:w.heap[b]?=some (.cells arr elem (0,0)))
  (hb':w'.heap[b]?=some (.cells (arr.toList.take (i * r.length+off)++vs++arr.toList.drop (i * r.length+off+vs.length)).toArray elem (0,0)))
  (hs:w'.heap.size=w.heap.size) (hh:∀ c,c≠b→w'.heap[c]?=w.heap[c]?)
  (hd:∀ (j:Nat) (t:T) (v:Value),ts[j]?=some t→vs[j]?=some v→Den G.q w' t v) (hsc:dp=true→ts.all scal=true):Own G w' id dp p (.l (setRow xs i off ts)):=by
 cases h with
 | nil hH'=>rw [hH] at hH';cases hH'
 | @l _ _ _ b2 wd cap2 arr2 elem2 cv h1 h2 h3 h4 h5 h6 h7 h8 h9 h10 h11 =>
  rw [hH] at h1
  cases h1
  rw [hb] at h4
  cases h4
  have hrl:r.length=wd:=h6 r (List.mem_of_getElem? hr)
  rw [hrl] at hb'
  have hilt:i < xs.length:=(List.getElem?_eq_some_iff.1 hr).1
  have hfit:i * wd+off+vs.length≤arr.size:=by
   rw [h5]
   have:(i+1) * wd≤cap * wd:=Nat.mul_le_mul_right _ (by omega)
   rw [Nat.add_mul] at this
   omega
  have hfree:∀ c,c < w.heap.size→G.q c=none→G.q c=none∧w'.heap[c]?=w.heap[c]?:=fun c _ hc=>⟨hc,hh c fun e=>by subst e;exact qf_lab h3 hqt hc⟩
  let cv':Nat→Nat→Value:=fun i' j'=>if i'=i∧off≤j'∧j' < off+ts.length then vs.getD (j' - off) undef else cv i' j'
  have hat:=at2_setRow hr hf
  have hcell:∀ i' j',j' < wd→(arr.toList.take (i * wd+off)++vs++arr.toList.drop (i * wd+off+vs.length)).toArray[i' * wd+j']? =
    if i'=i∧off≤j'∧j' < off+ts.length then vs[j' - off]? else arr[i' * wd+j']?:=by
   intro i' j' hj'
   rw [List.getElem?_toArray,← setsAt_toList _ _ _ hfit,Array.getElem?_toList,setsAt_get _ _ _ _ hfit]
   have key:(i * wd+off≤i' * wd+j'∧i' * wd+j' < i * wd+off+vs.length)↔(i'=i∧off≤j'∧j' < off+ts.length):=by
    constructor
    ·rintro ⟨g1,g2⟩
     have:i'=i:=by
      rcases Nat.lt_trichotomy i' i with hlt | he | hgt
      ·have:(i'+1) * wd≤i * wd:=Nat.mul_le_mul_right _ hlt
       rw [Nat.add_mul] at this
       omega
      ·exact he
      ·have:(i+1) * wd≤i' * wd:=Nat.mul_le_mul_right _ hgt
       rw [Nat.add_mul] at this
       omega
     subst this
     exact ⟨rfl,by omega,by omega⟩
    ·rintro ⟨rfl,g1,g2⟩
     exact ⟨by omega,by omega⟩
   by_cases hc:i'=i∧off≤j'∧j' < off+ts.length
   ·rw [if_pos (key.2 hc),if_pos hc]
    congr 1
    obtain ⟨rfl,_,_⟩:=hc
    omega
   ·rw [if_neg (fun g=>hc (key.1 g)),if_neg hc]
  have inn:∀ i' j' t,at2 (setRow xs i off ts) i' j'=some t→(i'=i∧off≤j'∧j' < off+ts.length)→∃ v,vs[j' - off]?=some v∧cv' i' j'=v∧Den G.q w' t v:=by
   intro i' j' t ht hc
   rw [hat,if_pos hc] at ht
   have hlt:j' - off < vs.length:=by omega
   refine ⟨vs[j' - off],List.getElem?_eq_getElem hlt,?_,hd _ _ _ ht (List.getElem?_eq_getElem hlt)⟩
   simp [cv',hc,List.getD,List.getElem?_eq_getElem hlt]
  have out:∀ i' j' t,at2 (setRow xs i off ts) i' j'=some t→¬ (i'=i∧off≤j'∧j' < off+ts.length)→at2 xs i' j'=some t∧cv' i' j'=cv i' j':=by
   intro i' j' t ht hc
   rw [hat,if_neg hc] at ht
   exact ⟨ht,by simp only [cv',if_neg hc]⟩
  have scal_in:∀ i' j' t,at2 (setRow xs i off ts) i' j'=some t→(i'=i∧off≤j'∧j' < off+ts.length)→dp=true→scal t=true:=by
   intro i' j' t ht hc hdp
   rw [hat,if_pos hc] at ht
   exact List.all_eq_true.1 (hsc hdp) t (List.mem_of_getElem? ht)
  refine .l (cv:=cv') (b:=b) (wd:=wd) (cap:=cap) (elem:=elem) (by rw [hH,setRow_length]) (by rw [setRow_length];exact ⟨h2.1,fun he=>h2.2 (List.eq_nil_of_length_eq_zero (by rw [← setRow_length,he];rfl))⟩) h3 hb' ?_ (setRow_rows h6 hr hf) ?_ ?_ ?_ ?_ ?_
  ·rw [List.size_toArray,← setsAt_toList _ _ _ hfit,Array.length_toList,setsAt_size];exact h5
  ·intro i' j' t ht
   have hj':j' < wd:=by
    obtain ⟨r',hr',hmem,_,_,hlt⟩:=at2_row ht
    have:=setRow_rows h6 hr hf r' hmem
    omega
   rw [hcell i' j' hj']
   by_cases hc:i'=i∧off≤j'∧j' < off+ts.length
   ·obtain ⟨v,g1,g2,_⟩:=inn i' j' t ht hc
    rw [if_pos hc,g1,g2]
   ·obtain ⟨g1,g2⟩:=out i' j' t ht hc
    rw [if_neg hc,g2]
    exact h7 i' j' t g1
  ·intro i' j' v ht
   by_cases hc:i'=i∧off≤j'∧j' < off+ts.length
   ·obtain ⟨u,g1,g2,g3⟩:=inn i' j' _ ht hc
    obtain ⟨e,hs⟩:=g3.scalar
    exact ⟨g2.trans e,hs⟩
   ·obtain ⟨g1,g2⟩:=out i' j' _ ht hc
    rw [g2];exact h8 i' j' v g1
  ·intro i' j' ys ht hdp
   by_cases hc:i'=i∧off≤j'∧j' < off+ts.length
   ·obtain ⟨u,g1,g2,g3⟩:=inn i' j' _ ht hc
    rw [g2];exact g3
   ·obtain ⟨g1,g2⟩:=out i' j' _ ht hc
    rw [g2];exact (h9 i' j' ys g1 hdp).keep (by omega) hfree
  ·intro i' j' ys ht hdp
   by_cases hc:i'=i∧off≤j'∧j' < off+ts.length
   ·have:=scal_in i' j' _ ht hc hdp
    simp [scal] at this
   ·obtain ⟨g1,g2⟩:=out i' j' _ ht hc
    rw [g2];exact h10 i' j' ys g1 hdp
  ·intro i' j' ys ht hdp
   by_cases hc:i'=i∧off≤j'∧j' < off+ts.length
   ·have:=scal_in i' j' _ ht hc hdp
    simp [scal] at this
   ·obtain ⟨g1,g2⟩:=out i' j' _ ht hc
    refine (h11 i' j' ys g1 hdp).sib rfl fun c q hcq=>hh c fun e=>?_
    subst e
    rw [h3] at hcq
    simp at hcq
def burp:List (Nat × Nat)→T→T→Option T
 | [],_,u=>some u
 | (i,j) :: p,.l xs,u=>(at2 xs i j).bind fun s=>(burp p s u).bind fun s'=>some (.l (setRow xs i j [s']))
 | _,_,_=>none
theorem digp_l:∀ {p:List (Nat × Nat)} {t:T} {ys:List (List T)},digp p t=some (.l ys)→∃ xs,t=.l xs
 | [],t,ys,h=>by simp [digp] at h;exact ⟨ys,h⟩
 | (i,j) :: p,.l xs,ys,h=>⟨xs,rfl⟩
 | (i,j) :: p,.c v,ys,h=>by simp [digp] at h
theorem burp_l:∀ {p:List (Nat × Nat)} {t t':T} {zs:List (List T)},burp p t (.l zs)=some t'→∃ xs,t'=.l xs
 | [],t,t',zs,h=>by simp [burp] at h;exact ⟨zs,h.symm⟩
 | (i,j) :: p,.l xs,t',zs,h=>by
  simp only [burp,Option.bind_eq_some_iff,Option.some.injEq] at h
  obtain ⟨s,hs,s',hs',rfl⟩:=h
  exact ⟨_,rfl⟩
 | (i,j) :: p,.c v,t',zs,h=>by simp [burp] at h
theorem Own.burp {G:Gh} {w w':World} {id b:Nat} (hh:∀ c,c≠b→w'.heap[c]?=w.heap[c]?):∀ {p p0:List (Nat × Nat)} {t t':T} {ys zs:List (List T)},
  Own G w id true p0 t→digp p t=some (.l ys)→burp p t (.l zs)=some t'→G.ω b=some (.o id (p0++p))→Own G w' id true (p0++p) (.l zs)→Own G w' id true p0 t'
 | [],p0,t,t',ys,zs,h,hd,hb,hω,hs=>by
  simp only [Go.Proofs.YtbhplkilhknciaaDoorC.burp,Option.some.injEq] at hb
  subst hb
  simpa using hs
 | (i,j) :: p,p0,t,t',ys,zs,h,hd,hb,hω,hs=>by
  cases h with
  | nil hH=>simp [digp,at2] at hd
  | @l _ _ xs b2 wd cap arr elem cv h1 h2 h3 h4 h5 h6 h7 h8 h9 h10 h11 =>
   simp only [digp,Option.bind_eq_some_iff] at hd
   obtain ⟨s,hs1,hs2⟩:=hd
   simp only [Go.Proofs.YtbhplkilhknciaaDoorC.burp,hs1,Option.bind_some,Option.bind_eq_some_iff,Option.some.injEq] at hb
   obtain ⟨s',hs',rfl⟩:=hb
   obtain ⟨us,rfl⟩:=digp_l hs2
   obtain ⟨us',rfl⟩:=burp_l hs'
   have ih:=Own.burp hh (p:=p) (p0:=p0++[(i,j)]) (h11 i j us hs1 rfl) hs2 hs' (by simpa using hω) (by simpa using hs)
   obtain ⟨r,hr,hmem,hrj,_,hjl⟩:=at2_row hs1
   have hf:j+[T.l us'].length≤r.length:=by simp;omega
   have hne:b2≠b:=by intro e;subst e;rw [h3] at hω;simp at hω
   have hat:∀ i' j',at2 (setRow xs i j [T.l us']) i' j'=if i'=i∧j'=j then some (T.l us') else at2 xs i' j':=by
    intro i' j'
    rw [at2_setRow hr hf]
    by_cases hc:i'=i∧j'=j
    ·obtain ⟨rfl,rfl⟩:=hc
     rw [if_pos ⟨rfl,Nat.le_refl _,by simp⟩,if_pos ⟨rfl,rfl⟩];simp
    ·rw [if_neg (by simp only [List.length_singleton];omega),if_neg hc]
   refine .l (cv:=cv) (by rw [setRow_length];exact h1) (by rw [setRow_length];exact ⟨h2.1,fun he=>h2.2 (List.eq_nil_of_length_eq_zero (by rw [← setRow_length,he];rfl))⟩) h3 ((hh b2 hne).trans h4) h5 (setRow_rows h6 hr hf) ?_ ?_ (fun i' j' ys' ht hd'=>by cases hd') ?_ ?_
   ·intro i' j' t ht
    rw [hat] at ht
    split at ht
    ·rename_i hc;obtain ⟨rfl,rfl⟩:=hc;exact h7 _ _ _ hs1
    ·exact h7 _ _ _ ht
   ·intro i' j' v ht
    rw [hat] at ht
    split at ht
    ·cases ht
    ·exact h8 _ _ _ ht
   ·intro i' j' ys' ht _
    rw [hat] at ht
    split at ht
    ·rename_i hc;obtain ⟨rfl,rfl⟩:=hc;exact h10 _ _ _ hs1 rfl
    ·exact h10 _ _ _ ht rfl
   ·intro i' j' ys' ht _
    rw [hat] at ht
    split at ht
    ·rename_i hc;obtain ⟨rfl,rfl⟩:=hc;cases ht;exact ih
    ·rename_i hc
     refine (h11 i' j' ys' ht rfl).sib rfl fun c q hcq=>hh c fun e=>?_
     subst e
     rw [hω] at hcq
     simp at hcq
     exact hc ⟨hcq.1.1.symm,hcq.1.2.symm⟩
section
variable {S:Nat→Sem1} {ρ:List T}
theorem Wk.up_same:∀ (q:Pth) (k:Wk) (x y:Lf),k.Same (k.up x y q).1
 | [],k,x,y=>.refl k
 | (ix,w,j) :: q,k,x,y=>by
  simp only [Wk.up]
  exact ((Wk.em_same k _ _).trans (Wk.up_same q _ _ _)).trans (Wk.em_same _ _ _)
theorem Wk.up_pre:∀ (q:Pth) (k:Wk) (x y:Lf),(k.up x y q).1.Done S ρ→k.Done S ρ
 | [],_,_,_,h=>h
 | (ix,w,j) :: q,k,x,y,h=>by
  simp only [Wk.up] at h
  exact (Wk.em_done (Wk.up_pre q _ _ _ (Wk.em_done h).1)).1
theorem bury_ev {x ix z:Lf} {w j i:Nat} {xs:List (List T)} {t u:T} (hx:x.evo ρ=some (.l xs)) (hi:stepI ρ ix=some i) (hz:z.evo ρ=some u)
  (h:Prim.ev (.bury w j) [x.ev ρ,ix.ev ρ,z.ev ρ]=some t):t=.l (setRow xs i j [u]):=by
 obtain ⟨k,hk⟩:=stepI_ev hi
 rw [Lf.evo_ev hx,hk,Lf.evo_ev hz] at h
 simp only [Prim.ev,rowAt_int,T.rows,T.int,Option.bind_some,Int.toNat_natCast] at h
 cases hr:xs[i]? with
 | none=>simp [hr] at h
 | some r =>
  simp only [hr,Option.bind_some] at h
  split at h
  ·split at h
   ·simp only [Option.some.injEq] at h;exact h.symm
   ·cases h
  ·cases h
theorem Wk.up_done:∀ (q:Pth) (k:Wk) (x y:Lf) {t:T} {zs:List (List T)} {p:List (Nat × Nat)},(k.up x y q).1.Done S ρ→x.evo ρ=some t→y.evo ρ=some (.l zs)→pthO ρ q=some p →
  (q=[]∨∃ xs,t=.l xs)→∃ t',burp p t (.l zs)=some t'∧(k.up x y q).2.evo ρ=some t'
 | [],k,x,y,t,zs,p,h,hx,hy,hp,_=>by
  simp only [pthO] at hp
  cases hp
  exact ⟨.l zs,rfl,hy⟩
 | (ix,w,j) :: q,k,x,y,t,zs,p,h,hx,hy,hp,ht=>by
  simp only [Wk.up] at h ⊢
  obtain ⟨xs,rfl⟩:=ht.resolve_left (by simp)
  simp only [pthO] at hp
  cases hi:stepI ρ ix with
  | none=>simp [hi] at hp
  | some i =>
   cases hq:pthO ρ q with
   | none=>simp [hi,hq] at hp
   | some p' =>
    simp [hi,hq] at hp
    subst hp
    obtain ⟨h2,t',ht',hev⟩:=Wk.em_done h
    obtain ⟨_,u,hu,huv⟩:=Wk.em_done (Wk.up_pre q _ _ _ h2)
    obtain ⟨ys,rfl,hat,_⟩:=dig_ev hx hi hu
    obtain ⟨v,hv,hvv⟩:=Wk.up_done q _ _ _ h2 huv hy hq (.inr ⟨ys,rfl⟩)
    have:=bury_ev hx hi hvv ht'
    subst this
    exact ⟨_,by simp [burp,hat,hv],hev⟩
end
section
variable {M:Nat→Prop} {B:Base} {d:Nat} {up:Nat→Nat→Value} {ρ:List T} {G:Gh} {a:Act} {w:World} {S:Nat→Sem1} {P:Program}
variable {cx:Cx} {fid rid oi:Nat} {s:St} {R:List Res} {ct:Ct} {k':Wk} {o:Oper} {Q:Exit→Act→World→Prop}
theorem run_storeAt_in {t:Nat} {ti:TI} (hT:TyOk P t ti) {b off:Nat} {v:Value} (hl:v.cells.size=ti.sz) {arr:Array Value} {elem:TypeId}
  (hb:w.heap[b]?=some (.cells arr elem (0,0))) (hf:off+v.cells.size≤arr.size) (h1:∀ u∈v.cells.toList,u.oneCell'=true) :
  (Instr.storeAt t (.pointer (some ⟨b,off,none⟩)) v).run P w=.ok () (w.setRow b (arr.toList.take off++v.cells.toList++arr.toList.drop (off+v.cells.toList.length)).toArray):=by
 obtain ⟨i,z,hi,hs,_,_,_⟩:=hT.info
 have hst:=run_storeCells_at (P:=P) b off elem v.cells.toList 0 arr w hb (by simpa using hf) h1
 simp only [Nat.add_zero] at hst
 simp [Instr.storeAt,Instr.sureAddr,storeVar,sizeOf,typeInfo,hi,hs,hl]
 simpa [hl] using hst
theorem so_setRow (w:World) (b:Nat) (cs:Array Value):SameOut w (w.setRow b cs):=⟨rfl,rfl,rfl⟩
theorem setRow_size (w:World) (b:Nat) (cs:Array Value):(w.setRow b cs).heap.size=w.heap.size:=by simp [World.setRow]
theorem setRow_keep {b:Nat} {l:Lb} (hl:G.ω b=some l) (hqt:qt l=false) (cs:Array Value) {I:Lb→Prop} (hI:I l) {N:Nat→Prop}:Keep I N G w G (w.setRow b cs):=by
 refine ⟨by rw [setRow_size];exact Nat.le_refl _,fun c _ hc=>⟨hc,setRow_other _ _ _ _ fun e=>?_⟩,fun c _ hc=>hc,fun c l' hc hn=>⟨hc,setRow_other _ _ _ _ fun e=>?_⟩,fun _ _=>⟨rfl,fun _ _=>rfl⟩⟩
 ·subst e;exact qf_lab hl hqt hc
 ·subst e;rw [hl] at hc;cases hc;exact hn hI
theorem store_exec {t:Nat} {x y:Operand} (ho:o.op=.store t x y) {w':World} (h:(Instr.storeAt t (a.eval x) (a.eval y)).run P w=.ok () w') :
  (execOp a.eval o).run P w=.ok .skip w':=by
 unfold execOp
 rw [ho]
 show Sem.run P (do Instr.storeAt t (a.eval x) (a.eval y);pure Next.skip) w=_
 rw [Sem.run_bind,h];rfl
theorem st_store_pt (tys:TyAll P cx) (h:Rel M B d up s ρ G a w) (hn:∀ n,o.dst=some n→n < a.tmps.size) {t:Nat} {x y:Operand} (ho:o.op=.store t x y)
  {bx off:Nat} (hx:opnd d (Wk.get ⟨s.only R,[],ct,[]⟩) x=.pt bx off)
  (hk:∃ k1,storeAt cx ⟨s.only R,[],ct,[]⟩ t (opnd d (Wk.get ⟨s.only R,[],ct,[]⟩) x) (opnd d (Wk.get ⟨s.only R,[],ct,[]⟩) y)=some k1∧putW d o k1 .un=k'):Goal P M B d up ρ a w s o k'.w Q∧k'.ct.i=ct.i:=by
 have hw:=WOk.start h R ct
 obtain ⟨k1,hst,hk⟩:=hk
 have hk2:putW d o k1 .un=k':=hk
 subst hk2
 simp only [storeAt,hx,Option.bind_eq_some_iff] at hst
 obtain ⟨ti,hti,cs,hcs,hst⟩:=hst
 cases hl:Nat.beq cs.length ti.sz with
 | false=>simp [hl] at hst
 | true =>
  simp only [hl,cond_true] at hst
  have hlen:=Nat.eq_of_beq_eq_true hl
  obtain ⟨hr,hm⟩:=hw.opn y
  obtain ⟨hrx,_⟩:=hw.opn x
  rw [hx] at hrx
  unfold cellsOf at hcs
  split at hcs
  ·rename_i ag es0 hop
   cases hcs
   rw [hop] at hr hm
   have hes:=cells_of_val hr
   split at hst
   ·rename_i ag0 old hold
    cases hle:Nat.ble (off+cs.length) old.length with
    | false=>simp [hle] at hst
    | true =>
     simp only [hle,cond_true,Option.some.injEq] at hst
     subst hst
     have hfit:=Nat.le_of_ble_eq_true hle
     have hbx:=hw.rel.bx bx
     rw [← Wk.get_sets,hold] at hbx
     obtain ⟨hω,arr,elem,hb,hold2⟩:=hbx
     have hl1:=hes.length
     have hl2:=hold2.length
     simp only [Array.length_toList] at hl1 hl2
     have hrun:=run_storeAt_in (w:=w) (tys.ty _ _ hti) (v:=a.eval y) (by rw [← hl1];exact hlen) hb (off:=off) (by omega) (fun u hu=>hes.one u hu)
     have hsp:=hold2.splice off hes
     have hids:=idsCs_splice old cs off
     have hmo:∀ i∈idsCs old,M i:=fun i hi=>hw.rel.ment (.x bx) i (by rw [← Wk.get_sets,hold];exact hi)
     have hmM:∀ i∈idsCs (splice old off cs),M i:=fun i hi=>(hids i hi).elim (hmo i) (hm i)
     refine ⟨?_,by rw [putW_i];rfl⟩
     have hK:Keep (keysOf (dstW d o .un++[(.x bx,.v ag0 (splice old off cs))])) (fun _=>False) G w G
       (w.setRow (G.β bx) (arr.toList.take off++(a.eval y).cells.toList++arr.toList.drop (off+(a.eval y).cells.toList.length)).toArray):=by
      refine setRow_keep hω rfl _ ?_
      show St.look _ (Res.x bx)≠none
      rw [look_append,look_one];simp
     simp only [Goal,Oper.wp,store_exec ho (by rw [show a.eval x=_ from hrx];exact hrun),Oper.upon]
     refine ⟨G,mem_step h hw (W2:=dstW d o .un++[(.x bx,.v ag0 (splice old off cs))]) (putW_W (W2:=[(.x bx,.v ag0 (splice old off cs))]) fun r=>by exact set_W r)
      hK (fun i hi=>hi.elim) (fun i hi=>hi) (fun n hdn=>dst_look hdn) (so_setRow _ _ _) ?_,put_size _ _ _⟩
     refine ⟨fun e n u he hl=>?_,fun b u hl=>?_,fun i u hl=>?_,fun r u hl i hi=>?_,fun i hi=>?_,fun b l hb=>?_⟩
     ·rcases look_dst hl with ⟨n',hn',e1,rfl⟩ | hl
      ·trivial
      ·rcases look_cons hl with ⟨e1,_⟩ | hl
       ·cases e1
       ·cases hl
     ·rcases look_dst hl with ⟨n',hn',e1,rfl⟩ | hl
      ·cases e1
      ·rcases look_cons hl with ⟨e1,rfl⟩ | hl
       ·cases e1
        refine ⟨hω,_,elem,setRow_heap w _ arr _ elem _ hb,?_⟩
        exact hsp.keep hK fun i _ hf=>hf
       ·cases hl
     ·rcases look_dst hl with ⟨n',hn',e1,rfl⟩ | hl
      ·cases e1
      ·rcases look_cons hl with ⟨e1,rfl⟩ | hl
       ·cases e1
       ·cases hl
     ·rcases look_dst hl with ⟨n',hn',e1,rfl⟩ | hl
      ·simp [idsSV] at hi
      ·rcases look_cons hl with ⟨e1,rfl⟩ | hl
       ·exact hmM i hi
       ·cases hl
     ·have:∀ r:Res,(r=.x i∨r=.o i)→St.look (dstW d o .un++[(Res.x bx,SV.v ag0 (splice old off cs))]) r≠none→i=bx:=by
       intro r hr hl
       obtain ⟨u,hu⟩:=Option.ne_none_iff_exists'.1 hl
       rcases look_dst hu with ⟨n',hn',e1,rfl⟩ | hl
       ·rcases hr with rfl | rfl <;> cases e1
       ·rcases look_cons hl with ⟨e1,rfl⟩ | hl
        ·rcases hr with rfl | rfl
         ·cases e1;rfl
         ·cases e1
        ·cases hl
      have hMb:M bx:=hw.rel.key bx (.inl (by rw [← Wk.get_sets,hold];simp))
      rcases hi with hi | hi
      ·rw [this _ (.inl rfl) hi];exact hMb
      ·rw [this _ (.inr rfl) hi];exact hMb
     ·rw [setRow_size];exact h.lab b l hb
   ·cases hst
  ·cases hcs
def DenL (ω:Nat→Option Lb) (w:World):List T→List Value→Prop
 | [],[]=>True
 | t :: ts,v :: vs=>Den ω w t v∧DenL ω w ts vs
 | _,_=>False
theorem DenL.length {ω:Nat→Option Lb}:∀ {ts:List T} {vs:List Value},DenL ω w ts vs→ts.length=vs.length
 | [],[],_=>rfl
 | [],_ :: _,h=>h.elim
 | _ :: _,[],h=>h.elim
 | _ :: ts,_ :: vs,h=>by simp [DenL.length h.2]
theorem DenL.get {ω:Nat→Option Lb}:∀ {ts:List T} {vs:List Value},DenL ω w ts vs→∀ (j:Nat) (t:T) (v:Value),ts[j]?=some t→vs[j]?=some v→Den ω w t v
 | [],[],_,j,t,v,h,_=>by simp at h
 | [],_ :: _,h,_,_,_,_,_=>h.elim
 | _ :: _,[],h,_,_,_,_,_=>h.elim
 | t :: ts,v :: vs,h,0,_,_,h1,h2=>by simp at h1 h2;subst h1 h2;exact h.1
 | t :: ts,v :: vs,h,j+1,_,_,h1,h2=>DenL.get h.2 j _ _ (by simpa using h1) (by simpa using h2)
theorem DenL.scal {ω ω':Nat→Option Lb} {w':World}:∀ {ts:List T} {vs:List Value},DenL ω w ts vs→ts.all scal=true→DenL ω' w' ts vs
 | [],[],_,_=>trivial
 | [],_ :: _,h,_=>h.elim
 | _ :: _,[],h,_=>h.elim
 | t :: ts,v :: vs,h,hs=>by
  simp only [List.all_cons,Bool.and_eq_true] at hs
  refine ⟨?_,DenL.scal h.2 hs.2⟩
  obtain ⟨u,rfl⟩:=scal_c hs.1
  obtain ⟨rfl,hu⟩:=h.1.scalar
  exact .c hu
theorem DenL.keep {ω ω':Nat→Option Lb} {w':World} (hs:w.heap.size≤w'.heap.size) (hf:∀ b,b < w.heap.size→ω b=none→ω' b=none∧w'.heap[b]?=w.heap[b]?) :
  ∀ {ts:List T} {vs:List Value},DenL ω w ts vs→DenL ω' w' ts vs
 | [],[],_=>trivial
 | [],_ :: _,h=>h.elim
 | _ :: _,[],h=>h.elim
 | t :: ts,v :: vs,h=>⟨h.1.keep hs hf,DenL.keep hs hf h.2⟩
def FzAll (k:Wk) (cs:List Ce):Prop:=∀ id∈idsCs cs,∃ pv x,k.get (.o id)=.fz pv x
theorem Wk.val_plain {k k1:Wk} {c:Ce} {x:Lf} {G1:Gh} {v:Value} (h:k.val c=some (k1,x)) (hr:RelCe G1 w ρ c v) (hk:WOk M B d up ρ G a w k G1) (hf:FzAll k [c]) :
  ∃ t,x.evo ρ=some t∧Den G1.q w t v:=by
 cases c with
 | p y=>simp [Wk.val] at h;obtain ⟨_,rfl⟩:=h;exact hr
 | n=>simp [Wk.val] at h;obtain ⟨_,rfl⟩:=h;cases hr;exact ⟨_,rfl,.nil⟩
 | d=>simp [Wk.val] at h
 | o id q =>
  obtain ⟨pv,y,hy⟩:=hf id (by simp [idsCs])
  have hob:=hk.obj id
  obtain ⟨p,hp,rfl⟩:=hr
  simp only [Wk.val,hy] at h
  rw [hy] at hob
  split at h
  ·simp at h
   obtain ⟨_,rfl⟩:=h
   simp only [pthI_nil] at hp
   cases hp
   exact ⟨_,hob.choose_spec.1,hob.choose_spec.2.1⟩
  ·cases h
theorem Wk.vals_same:∀ {cs:List Ce} {k k1:Wk} {xs:List Lf},k.vals cs=some (k1,xs)→k.Same k1
 | [],k,k1,xs,h=>by simp [Wk.vals] at h;obtain ⟨rfl,_⟩:=h;exact .refl _
 | c :: cs,k,k1,xs,h=>by
  simp only [Wk.vals,Option.bind_eq_some_iff,Option.some.injEq,Prod.mk.injEq] at h
  obtain ⟨⟨k2,x⟩,h1,⟨k3,ys⟩,h2,rfl,rfl⟩:=h
  exact (Wk.val_same h1).trans (Wk.vals_same h2)
theorem Wk.vals_pre:∀ {cs:List Ce} {k k1:Wk} {xs:List Lf},k.vals cs=some (k1,xs)→k1.Done S ρ→k.Done S ρ
 | [],k,k1,xs,h,hd=>by simp [Wk.vals] at h;obtain ⟨rfl,_⟩:=h;exact hd
 | c :: cs,k,k1,xs,h,hd=>by
  simp only [Wk.vals,Option.bind_eq_some_iff,Option.some.injEq,Prod.mk.injEq] at h
  obtain ⟨⟨k2,x⟩,h1,⟨k3,ys⟩,h2,rfl,rfl⟩:=h
  exact Wk.val_pre h1 (Wk.vals_pre h2 hd)
theorem Wk.vals_done:∀ {cs:List Ce} {k k1:Wk} {xs:List Lf} {G1:Gh} {vs:List Value},k.vals cs=some (k1,xs)→k1.Done S ρ→RelCs G1 w ρ cs vs→WOk M B d up ρ G a w k G1 →
  ∃ ts,xs.map (Lf.ev ρ)=ts∧DenL (er G1.ω) w ts vs∧(FzAll k cs→DenL G1.q w ts vs)∧xs.length=vs.length
 | [],k,k1,xs,G1,vs,h,hd,hr,hk=>by
  simp [Wk.vals] at h
  obtain ⟨_,rfl⟩:=h
  cases vs with
  | nil=>exact ⟨[],rfl,trivial,fun _=>trivial,rfl⟩
  | cons _ _=>exact hr.elim
 | c :: cs,k,k1,xs,G1,[],h,hd,hr,hk=>hr.elim
 | c :: cs,k,k1,xs,G1,v :: vs,h,hd,hr,hk=>by
  simp only [Wk.vals,Option.bind_eq_some_iff,Option.some.injEq,Prod.mk.injEq] at h
  obtain ⟨⟨k2,x⟩,h1,⟨k3,ys⟩,h2,rfl,rfl⟩:=h
  have hs:=Wk.val_same h1
  obtain ⟨ts,e1,e2,e3,e4⟩:=Wk.vals_done h2 hd hr.2 (hk.same hs)
  obtain ⟨t,ht,hdt⟩:=Wk.val_done h1 (Wk.vals_pre h2 hd) hr.1 fun id _=>hk.obj id
  refine ⟨t :: ts,by simp [e1,Lf.evo_ev ht],⟨hdt,e2⟩,fun hf=>⟨?_,e3 fun id hid=>?_⟩,by simp [e4]⟩
  ·obtain ⟨t',ht',hdt'⟩:=Wk.val_plain h1 hr.1 hk fun id hid=>hf id (by rw [idsCs_cons];exact List.mem_append_left _ hid)
   rw [ht] at ht'
   cases ht'
   exact hdt'
  ·rw [hs.get]
   exact hf id (by rw [idsCs_cons];exact List.mem_append_right _ hid)
theorem WOk.thaws:∀ {cs:List Ce} {k k1:Wk} {G1:Gh},WOk M B d up ρ G a w k G1→k.thaws cs=some k1 →
  ∃ G2,WOk M B d up ρ G a w k1 G2∧G2.β=G1.β∧G2.H=G1.H∧k1.ct=k.ct∧k1.is=k.is∧FzAll k1 cs∧(∀ id pv x,k.get (.o id)=.fz pv x→k1.get (.o id)=.fz pv x) ∧
   (∀ id dp x,k1.get (.o id)=.ob dp x→k.get (.o id)=.ob dp x)
 | [],k,k1,G1,h,hk=>by
  simp [Wk.thaws] at hk
  subst hk
  exact ⟨G1,h,rfl,rfl,rfl,rfl,(fun _ h=>by cases h),(fun _ _ _ h=>h),fun _ _ _ h=>h⟩
 | c :: cs,k,k1,G1,h,hk=>by
  cases c with
  | o id q =>
   simp only [Wk.thaws,Option.bind_eq_some_iff] at hk
   obtain ⟨k2,h1,h2⟩:=hk
   obtain ⟨G2,g1,g2,g3,g4,g5,g6⟩:=h.thaw h1
   obtain ⟨G3,f1,f2,f3,f4,f5,f6,f7,f8⟩:=WOk.thaws g1 h2
   have hget:∃ pv x,k2.get (.o id)=.fz pv x:=by
    unfold Wk.thaw at h1
    split at h1
    ·rename_i dp x hx;cases h1;exact ⟨.z,x,by simp [Wk.get,Wk.set,St.look_set_self]⟩
    ·rename_i pv x hx;cases h1;exact ⟨pv,x,hx⟩
    ·cases h1
   have hoth:∀ i,i≠id→k2.get (.o i)=k.get (.o i):=by
    intro i hi
    unfold Wk.thaw at h1
    split at h1
    ·cases h1;simp only [Wk.get,Wk.set];rw [St.look_set_ne _ _ (by simpa using Ne.symm hi)]
    ·cases h1;rfl
    ·cases h1
   have hself:∀ pv x,k.get (.o id)=.fz pv x→k2.get (.o id)=.fz pv x:=by
    intro pv x hx
    unfold Wk.thaw at h1
    rw [hx] at h1
    cases h1
    exact hx
   refine ⟨G3,f1,f2.trans g2,f3.trans g3,f4.trans g5,f5.trans g6,?_,?_,?_⟩
   ·intro i hi
    rw [idsCs_cons] at hi
    rcases List.mem_append.1 hi with hi | hi
    ·simp [idsCs] at hi
     subst hi
     obtain ⟨pv,x,hx⟩:=hget
     exact ⟨pv,x,f7 _ _ _ hx⟩
    ·exact f6 i hi
   ·intro i pv x hx
    refine f7 i pv x ?_
    by_cases hi:i=id
    ·subst hi;exact hself pv x hx
    ·rw [hoth i hi];exact hx
   ·intro i dp x hx
    have:=f8 i dp x hx
    by_cases hi:i=id
    ·subst hi;obtain ⟨pv,y,hy⟩:=hget;rw [hy] at this;cases this
    ·rwa [hoth i hi] at this
  | p x =>
   obtain ⟨G2,g1,g2,g3,g4,g5,g6,g7⟩:=WOk.thaws h (show k.thaws cs=some k1 from hk)
   exact ⟨G2,g1,g2,g3,g4,g5,by intro i hi;rw [idsCs_cons] at hi;exact g6 i (by simpa [idsCs] using hi),g7⟩
  | n =>
   obtain ⟨G2,g1,g2,g3,g4,g5,g6,g7⟩:=WOk.thaws h (show k.thaws cs=some k1 from hk)
   exact ⟨G2,g1,g2,g3,g4,g5,by intro i hi;rw [idsCs_cons] at hi;exact g6 i (by simpa [idsCs] using hi),g7⟩
  | d =>
   obtain ⟨G2,g1,g2,g3,g4,g5,g6,g7⟩:=WOk.thaws h (show k.thaws cs=some k1 from hk)
   exact ⟨G2,g1,g2,g3,g4,g5,by intro i hi;rw [idsCs_cons] at hi;exact g6 i (by simpa [idsCs] using hi),g7⟩
theorem obj_step {k:Wk} {G1:Gh} (h:Rel M B d up s ρ G a w) (hk:WOk M B d up ρ G a w k G1) (hn:∀ n,o.dst=some n→n < a.tmps.size) {id b:Nat} {p:List (Nat × Nat)} {dp:Bool} {y:Lf}
  {t':T} {cells:Array Value} (hω:G1.ω b=some (.o id p)) (hqt:p=[]∨id % 2=1) (hq2:id % 4≠2) (hy:y.evo ρ=some t') (hown:Own G1 (w.setRow b cells) id dp [] t')
  (hx:(execOp a.eval o).run P w=.ok .skip (w.setRow b cells)):Goal P M B d up ρ a w s o (putW d o (k.set (.o id) (.ob dp y)) .un).w Q:=by
 have hM:M id:=(hk.rel.lab b _ hω).1
 have hK:Keep (keysOf (dstW d o .un++[(.o id,.ob dp y)])) (fun _=>False) G1 w G1 (w.setRow b cells):=by
  refine setRow_keep hω (qt_pth (ρ:=ρ) hqt hq2) _ ?_
  show St.look _ (Res.o id)≠none
  rw [look_append,look_one];simp
 simp only [Goal,Oper.wp,hx,Oper.upon]
 refine ⟨G1,mem_step h hk (W2:=dstW d o .un++[(.o id,.ob dp y)]) (putW_W (W2:=[(.o id,.ob dp y)]) fun r=>by exact set_W r)
  hK (fun i hi=>hi.elim) (fun i hi=>hi) (fun n hdn=>dst_look hdn) (so_setRow _ _ _) ?_,put_size _ _ _⟩
 refine ⟨fun e n u he hl=>?_,fun b u hl=>?_,fun i u hl=>?_,fun r u hl i hi=>?_,fun i hi=>?_,fun b l hb=>?_⟩
 ·rcases look_dst hl with ⟨n',hn',e1,rfl⟩ | hl
  ·trivial
  ·rcases look_cons hl with ⟨e1,_⟩ | hl
   ·cases e1
   ·cases hl
 ·rcases look_dst hl with ⟨n',hn',e1,rfl⟩ | hl
  ·cases e1
  ·rcases look_cons hl with ⟨e1,rfl⟩ | hl
   ·cases e1
   ·cases hl
 ·rcases look_dst hl with ⟨n',hn',e1,rfl⟩ | hl
  ·cases e1
  ·rcases look_cons hl with ⟨e1,rfl⟩ | hl
   ·cases e1
    exact ⟨t',hy,hown⟩
   ·cases hl
 ·rcases look_dst hl with ⟨n',hn',e1,rfl⟩ | hl
  ·simp [idsSV] at hi
  ·rcases look_cons hl with ⟨e1,rfl⟩ | hl
   ·simp [idsSV] at hi
   ·cases hl
 ·have:∀ r:Res,(r=.x i∨r=.o i)→St.look (dstW d o .un++[(Res.o id,SV.ob dp y)]) r≠none→i=id:=by
   intro r hr hl
   obtain ⟨u,hu⟩:=Option.ne_none_iff_exists'.1 hl
   rcases look_dst hu with ⟨n',hn',e1,rfl⟩ | hl
   ·rcases hr with rfl | rfl <;> cases e1
   ·rcases look_cons hl with ⟨e1,rfl⟩ | hl
    ·rcases hr with rfl | rfl
     ·cases e1
     ·cases e1;rfl
    ·cases hl
  rcases hi with hi | hi
  ·rw [this _ (.inl rfl) hi];exact hM
  ·rw [this _ (.inr rfl) hi];exact hM
 ·rw [setRow_size];exact hk.rel.lab b l hb
theorem put_ev {x ix:Lf} {sc:Bool} {wd off n i:Nat} {xs:List (List T)} {ts:List T} {t:T} (hx:x.evo ρ=some (.l xs)) (hi:stepI ρ ix=some i)
  (h:Prim.ev (.put sc wd off n) (x.ev ρ :: ix.ev ρ :: ts)=some t):∃ r,xs[i]?=some r∧r.length=wd∧off+ts.length≤r.length∧(sc=true→ts.all scal=true)∧t=.l (setRow xs i off ts):=by
 obtain ⟨k,hk⟩:=stepI_ev hi
 rw [Lf.evo_ev hx,hk] at h
 simp only [Prim.ev,rowAt_int,T.rows,T.int,Option.bind_some,Int.toNat_natCast] at h
 cases hr:xs[i]? with
 | none=>simp [hr] at h
 | some r =>
  simp only [hr,Option.bind_some] at h
  split at h
  ·rename_i g1
   split at h
   ·rename_i g2
    split at h
    ·rename_i g3
     split at h
     ·rename_i g4
      simp only [Option.some.injEq] at h
      refine ⟨r,rfl,g1,by omega,fun hs=>?_,h.symm⟩
      subst hs
      simpa using g4
     ·cases h
    ·cases h
   ·cases h
  ·cases h
theorem Wk.get_set_self (k:Wk) (r:Res) (v:SV):(k.set r v).get r=v:=by
 simp [Wk.get,Wk.set,St.look_set_self]
theorem st_store_ep (tys:TyAll P cx) (h:Rel M B d up s ρ G a w) (hn:∀ n,o.dst=some n→n < a.tmps.size) {t:Nat} {x y:Operand} (ho:o.op=.store t x y)
  {id:Nat} {q:Pth} {ix:Lf} {wd off:Nat} (hx:opnd d (Wk.get ⟨s.only R,[],ct,[]⟩) x=.ep id q ix wd off)
  (hk:∃ k1,storeAt cx ⟨s.only R,[],ct,[]⟩ t (opnd d (Wk.get ⟨s.only R,[],ct,[]⟩) x) (opnd d (Wk.get ⟨s.only R,[],ct,[]⟩) y)=some k1∧putW d o k1 .un=k') (hd:k'.Done S ρ):Goal P M B d up ρ a w s o k'.w Q∧k'.ct.i=ct.i:=by
 have hw:=WOk.start h R ct
 obtain ⟨k1,hst,hk⟩:=hk
 have hk2:putW d o k1 .un=k':=hk
 subst hk2
 have hd1:=putW_done.1 hd
 simp only [storeAt,hx,Option.bind_eq_some_iff] at hst
 obtain ⟨ti,hti,cs,hcs,hst⟩:=hst
 cases hl:Nat.beq cs.length ti.sz with
 | false=>simp [hl] at hst
 | true =>
  simp only [hl,cond_true] at hst
  have hlen:=Nat.eq_of_beq_eq_true hl
  obtain ⟨hr,hm⟩:=hw.opn y
  obtain ⟨hrx,_⟩:=hw.opn x
  rw [hx] at hrx
  obtain ⟨p,b,n,cap,i,hp,hH,hi,hin,hev⟩:=hrx
  unfold cellsOf at hcs
  split at hcs
  ·rename_i ag es0 hop
   cases hcs
   rw [hop] at hr hm
   have hes:=cells_of_val hr
   have hl1:=hes.length
   cases hq2:Nat.beq (id % 4) 2 with
   | true=>simp [hq2] at hst
   | false =>
   have hq2:id % 4≠2:=fun e=>by rw [e] at hq2;cases hq2
   simp only [show Nat.beq (id % 4) 2=false from (by cases hb:Nat.beq (id % 4) 2 with | false=>rfl | true=>exact absurd (Nat.eq_of_beq_eq_true hb) hq2),cond_false] at hst
   cases hN:ti.zero.any isN with
   | true =>
    simp only [hN,cond_true] at hst
    split at hst
    ·simp only [pthI_nil,Option.some.injEq] at hp
     subst hp
     simp only [Option.bind_eq_some_iff] at hst
     obtain ⟨k2,hfl,k3,hth,⟨k4,xs⟩,hvs,hst⟩:=hst
     obtain ⟨G2,w2,e1,e2,e3,e4,e5⟩:=hw.flat hfl
     obtain ⟨G3,w3,f1,f2,f4,f5,f6,f7,f8⟩:=w2.thaws hth
     have hs4:=Wk.vals_same hvs
     have w4:=w3.same hs4
     simp only at hst
     split at hst
     ·rename_i dp0 z hz
      simp only [Option.some.injEq] at hst
      subst hst
      have hob:=w4.obj id
      rw [hz] at hob
      obtain ⟨tt,hzv,hown⟩:=hob
      have hd2:(k4.em (.put false wd off xs.length) (z :: ix :: xs)).1.Done S ρ:=hd1
      obtain ⟨hd4,t',hput,hyv⟩:=Wk.em_done hd2
      have hH3:G3.H id []=.slice (some ⟨b,0,none⟩) n cap:=by rw [f2,e2];exact hH
      have hes3:RelCs G3 w ρ cs (a.eval y).cells.toList:=by
       have k3:Keep (keysOf k3.w) (fun _=>False) G w G3 w:=w3.keep
       exact hes.keep k3 fun _ _ hf=>hf
      obtain ⟨ts,g1,_,g3,g4⟩:=Wk.vals_done hvs hd4 hes3 w3
      simp only [List.map_cons] at hput
      rw [g1] at hput
      obtain ⟨rows,rfl⟩:∃ ys,tt=.l ys:=by cases hown <;> exact ⟨_,rfl⟩
      obtain ⟨r,hr1,hr2,hr3,_,rfl⟩:=put_ev hzv hi hput
      have hdl:=g3 fun j hj=>f6 j hj
      have hlts:=hdl.length
      have hdp:dp0=false:=by
       have h3:k3.get (.o id)=.ob dp0 z:=by rw [← hs4.get];exact hz
       have h2:=f8 _ _ _ h3
       unfold Wk.flat at hfl
       split at hfl
       ·cases hfl;rw [Wk.get_set_self] at h2;cases h2;rfl
       ·rename_i z2 hz2;cases hfl;rw [hz2] at h2;cases h2
       ·cases hfl
      subst hdp
      have hblk:∃ arr elem,G3.ω b=some (.o id [])∧w.heap[b]?=some (.cells arr elem (0,0))∧(i * wd+off)+(a.eval y).cells.size≤arr.size:=by
       cases hown with
       | nil hH'=>rw [hH3] at hH';cases hH'
       | @l _ _ _ b2 wd2 cap2 arr elem cv h1 h2 h3 h4 h5 h6 _ _ _ _ _ =>
        rw [hH3] at h1
        cases h1
        refine ⟨arr,elem,h3,h4,?_⟩
        have hwd:wd2=wd:=by rw [← hr2];exact (h6 r (List.mem_of_getElem? hr1)).symm
        subst hwd
        rw [h5]
        have:(i+1) * wd2≤cap * wd2:=Nat.mul_le_mul_right _ (by omega)
        rw [Nat.add_mul] at this
        simp only [Array.length_toList] at hlts
        omega
      obtain ⟨arr,elem,hω,hb,hfit⟩:=hblk
      have hrun:=run_storeAt_in (P:=P) (w:=w) (tys.ty _ _ hti) (v:=a.eval y) (by simp only [Array.length_toList] at hl1;rw [← hl1];exact hlen) hb (off:=i * wd+off) hfit (fun u hu=>hes.one u hu)
      have hown2:=hown.put (w':=w.setRow b (arr.toList.take (i * wd+off)++(a.eval y).cells.toList++arr.toList.drop (i * wd+off+(a.eval y).cells.toList.length)).toArray)
       hH3 (qt_top hq2) hr1 hr3 hlts.symm hb (by rw [hr2];exact setRow_heap w _ arr _ elem _ hb) (setRow_size _ _ _) (fun c hc=>setRow_other _ _ _ _ hc)
       (DenL.get (hdl.keep (by rw [setRow_size];exact Nat.le_refl _) fun c _ hc=>⟨hc,setRow_other _ _ _ _ fun e=>by subst e;exact qf_lab hω (qt_top hq2) hc⟩)) (fun hf=>by cases hf)
      refine ⟨obj_step h (w4.same (Wk.em_same _ _ _)) hn (hω:=hω) (hqt:=.inl rfl) (hq2:=hq2) (hy:=hyv) (hown:=hown2) (store_exec ho (by rw [hev];exact hrun)),?_⟩
      rw [putW_i]
      show k4.ct.i=ct.i
      rw [hs4.i,f4,e4]
     ·cases hst
    ·cases hst
   | false =>
    simp only [hN,cond_false,Option.bind_eq_some_iff] at hst
    obtain ⟨⟨k4,xs⟩,hvs,hst⟩:=hst
    have hs4:=Wk.vals_same hvs
    have w4:=hw.same hs4
    simp only at hst
    split at hst
    ·rename_i dp z hz
     cases hdq:(dp || q.isEmpty) with
     | false=>simp [hdq] at hst
     | true =>
      simp only [hdq,cond_true,Option.some.injEq] at hst
      subst hst
      have hob:=w4.obj id
      rw [hz] at hob
      obtain ⟨tt,hzv,hown⟩:=hob
      obtain ⟨rows,rfl⟩:∃ ys,tt=.l ys:=by cases hown <;> exact ⟨_,rfl⟩
      have hdu:(Wk.up ((k4.down z q).1.em (.put true wd off xs.length) ((k4.down z q).2 :: ix :: xs)).1 z ((k4.down z q).1.em (.put true wd off xs.length) ((k4.down z q).2 :: ix :: xs)).2 q).1.Done S ρ:=hd1
      have hdp2:=Wk.up_pre _ _ _ _ hdu
      obtain ⟨hdn,t',hput,hyv⟩:=Wk.em_done hdp2
      obtain ⟨u,hu,hzu,hul⟩:=Wk.down_done q k4 z hdn hzv (pthI_O hp) (.inr ⟨_,rfl⟩)
      obtain ⟨ys,rfl⟩:∃ ys,u=.l ys:=by
       rcases hul with rfl | h'
       ·simp only [pthI_nil] at hp;cases hp;simp [digp] at hu;exact ⟨rows,hu.symm⟩
       ·exact h'
      obtain ⟨ts,g1,g2,_,g4⟩:=Wk.vals_done hvs (Wk.down_pre q _ _ hdn) hes hw
      simp only [List.map_cons] at hput
      rw [g1] at hput
      obtain ⟨r,hr1,hr2,hr3,hsc,rfl⟩:=put_ev hzu hi hput
      obtain ⟨t2,ht2,hy2⟩:=Wk.up_done q _ z _ hdu hzv hyv (pthI_O hp) (.inr ⟨_,rfl⟩)
      have hdl:DenL G.q (w.setRow b #[]) ts (a.eval y).cells.toList:=g2.scal (hsc rfl)
      have hlts:=g2.length
      have hsub:Own G w id dp p (.l ys):=by
       cases dp with
       | true=>simpa using Own.dig p hown hu ⟨ys,rfl⟩
       | false =>
        have hq:q=[]:=by simpa using hdq
        subst hq
        simp only [pthI_nil] at hp
        cases hp
        simp [digp] at hu
        subst hu
        exact hown
      have hblk:∃ arr elem,G.ω b=some (.o id p)∧w.heap[b]?=some (.cells arr elem (0,0))∧(i * wd+off)+(a.eval y).cells.size≤arr.size:=by
       cases hsub with
       | nil hH'=>rw [hH] at hH';cases hH'
       | @l _ _ _ b2 wd2 cap2 arr elem cv h1 h2 h3 h4 h5 h6 _ _ _ _ _ =>
        rw [hH] at h1
        cases h1
        refine ⟨arr,elem,h3,h4,?_⟩
        have hwd:wd2=wd:=by rw [← hr2];exact (h6 r (List.mem_of_getElem? hr1)).symm
        subst hwd
        rw [h5]
        have:(i+1) * wd2≤cap * wd2:=Nat.mul_le_mul_right _ (by omega)
        rw [Nat.add_mul] at this
        simp only [Array.length_toList] at hlts
        omega
      obtain ⟨arr,elem,hω,hb,hfit⟩:=hblk
      have hrun:=run_storeAt_in (P:=P) (w:=w) (tys.ty _ _ hti) (v:=a.eval y) (by simp only [Array.length_toList] at hl1;rw [← hl1];exact hlen) hb (off:=i * wd+off) hfit (fun u hu=>hes.one u hu)
      have hown2:=hsub.put (w':=w.setRow b (arr.toList.take (i * wd+off)++(a.eval y).cells.toList++arr.toList.drop (i * wd+off+(a.eval y).cells.toList.length)).toArray)
       hH (qt_pth (ρ:=ρ) (pthI_or hp) hq2) hr1 hr3 hlts.symm hb (by rw [hr2];exact setRow_heap w _ arr _ elem _ hb) (setRow_size _ _ _) (fun c hc=>setRow_other _ _ _ _ hc)
       (DenL.get (g2.scal (hsc rfl))) (fun _=>hsc rfl)
      have hown3:Own G (w.setRow b (arr.toList.take (i * wd+off)++(a.eval y).cells.toList++arr.toList.drop (i * wd+off+(a.eval y).cells.toList.length)).toArray) id dp [] t2:=by
       cases dp with
       | true=>exact Own.burp (fun c hc=>setRow_other _ _ _ _ hc) hown hu ht2 (by simpa using hω) (by simpa using hown2)
       | false =>
        have hq:q=[]:=by simpa using hdq
        subst hq
        simp only [pthI_nil] at hp
        cases hp
        simp only [burp,Option.some.injEq] at ht2
        subst ht2
        exact hown2
      refine ⟨obj_step h (((w4.same (Wk.down_same q _ _)).same (Wk.em_same _ _ _)).same (Wk.up_same q _ _ _)) hn (hω:=hω) (hqt:=pthI_or hp) (hq2:=hq2) (hy:=hy2) (hown:=hown3) (store_exec ho (by rw [hev];exact hrun)),?_⟩
      rw [putW_i]
      show (Wk.up _ z _ q).1.ct.i=ct.i
      rw [(Wk.up_same q _ _ _).i,(Wk.em_same _ _ _).i,(Wk.down_same q _ _).i,hs4.i]
    ·cases hst
  ·cases hcs
theorem st_store (tys:TyAll P cx) (h:Rel M B d up s ρ G a w) (hn:∀ n,o.dst=some n→n < a.tmps.size) {t:Nat} {x y:Operand} (ho:o.op=.store t x y)
  (hk:∃ k1,storeAt cx ⟨s.only R,[],ct,[]⟩ t (opnd d (Wk.get ⟨s.only R,[],ct,[]⟩) x) (opnd d (Wk.get ⟨s.only R,[],ct,[]⟩) y)=some k1∧putW d o k1 .un=k') (hd:k'.Done S ρ):Goal P M B d up ρ a w s o k'.w Q∧k'.ct.i=ct.i:=by
 cases hx:opnd d (Wk.get ⟨s.only R,[],ct,[]⟩) x with
 | pt bx off=>exact st_store_pt tys h hn ho hx hk
 | ep id q ix wd off=>exact st_store_ep tys h hn ho hx hk hd
 | _ =>
  exfalso
  obtain ⟨k1,hk,_⟩:=hk
  simp only [storeAt,hx,Option.bind_eq_some_iff] at hk
  obtain ⟨ti,_,cs,_,h1⟩:=hk
  cases hb:Nat.beq cs.length ti.sz <;> simp [hb] at h1
theorem at2_sub {xs:List (List T)} {l h:Nat} {i j:Nat} {t:T} (ht:at2 ((xs.take h).drop l) i j=some t):at2 xs (l+i) j=some t:=by
 unfold at2 at ht ⊢
 rw [List.getElem?_drop,List.getElem?_take] at ht
 split at ht
 ·exact ht
 ·simp at ht
theorem Den.sub {ω:Nat→Option Lb} {xs:List (List T)} {ao:Option Addr} {n cap l h sz:Nat} (hd:Den ω w (.l xs) (.slice ao n cap)) (hlh:l≤h) (hh:h≤xs.length) (hok:okW sz xs=true) :
  Den ω w (.l ((xs.take h).drop l)) (sliced ao l h cap sz):=by
 unfold sliced
 by_cases he:l=h
 ·subst he
  have:(xs.take l).drop l=[]:=by simp
  rw [this,Nat.sub_self]
  exact .nil
 ·cases hd with
  | nil=>simp at hh;omega
  | @l _ b off wd _ cv hw hc hb hlt h1 h2 =>
   have hne:¬ (cap=l):=by omega
   have hlen:((xs.take h).drop l).length=h - l:=by simp;omega
   have hsz:sz=wd:=by
    cases xs with
    | nil=>simp at hh;omega
    | cons r xs=>rw [← hw r (by simp)];exact (Nat.eq_of_beq_eq_true hok).symm
   subst hsz
   rw [if_neg hne]
   simp only [Option.map_some,Addr.add_lit]
   rw [← hlen]
   refine .l (cv:=fun i j=>cv (l+i) j) (fun r hr=>hw r (List.mem_of_mem_take (List.mem_of_mem_drop hr))) (by rw [hlen];omega) hb hlt (fun i j t ht=>?_) fun i j t ht=>h2 _ _ _ (at2_sub ht)
   have:=h1 _ _ _ (at2_sub ht)
   rw [Nat.add_mul] at this
   rw [show off+l * sz+(i * sz+j)=off+(l * sz+i * sz+j) by omega]
   exact this
def bnd1 (k:Wk) (f:Operand→SV):Option Operand→Option (Wk × List Lf)
 | none=>some (k,[])
 | some l=>(k.one (f l)).bind fun r=>some (r.1,[r.2])
theorem bound_done {k k1:Wk} {G1:Gh} (hk:WOk M B d up ρ G a w k G1) {lo:Option Operand} {ls:List Lf} {f:Operand→SV} (hf:∀ x,lo=some x→RelSV G1 w ρ (f x) (a.eval x))
  (h:bnd1 k f lo=some (k1,ls)) (hd:k1.Done S ρ) :
  k.Done S ρ∧k.Same k1∧((lo=none∧ls=[])∨∃ x y t,lo=some x∧ls=[y]∧y.ev ρ=t∧Den (er G1.ω) w t (a.eval x)):=by
 cases lo with
 | none =>
  simp only [bnd1,Option.some.injEq,Prod.mk.injEq] at h
  obtain ⟨rfl,rfl⟩:=h
  exact ⟨hd,.refl _,.inl ⟨rfl,rfl⟩⟩
 | some x =>
  simp only [bnd1,Option.bind_eq_some_iff,Option.some.injEq,Prod.mk.injEq] at h
  obtain ⟨⟨k2,y⟩,h1,rfl,rfl⟩:=h
  obtain ⟨e1,e2,t,e3,e4⟩:=Wk.one_done hk h1 hd (hf x rfl)
  exact ⟨e1,e2,.inr ⟨x,y,t,rfl,rfl,Lf.evo_ev e3,e4⟩⟩
theorem den_int {ω:Nat→Option Lb} {k:IntKind} {n:Int} {v:Value} (h:Den ω w (.c (.int k n)) v):v=.int k n:=h.scalar.1
theorem sub_bounds {ω:Nat→Option Lb} {lo hi:Option Operand} {ls hs:List Lf} {n:Nat} {r:T} {F:Int→Int→Option T}
  (hlo:(lo=none∧ls=[])∨∃ x y t,lo=some x∧ls=[y]∧y.ev ρ=t∧Den ω w t (a.eval x)) (hhi:(hi=none∧hs=[])∨∃ x y t,hi=some x∧hs=[y]∧y.ev ρ=t∧Den ω w t (a.eval x))
  (h:((match lo.isSome,hi.isSome,(ls++hs).map (Lf.ev ρ) with
   | false,false,[]=>some ((0:Int),(n:Int))
   | true,false,[.c (.int _ l)]=>some (l,(n:Int))
   | false,true,[.c (.int _ h)]=>some (0,h)
   | true,true,[.c (.int _ l),.c (.int _ h)]=>some (l,h)
   | _,_,_=>none).bind fun b=>F b.1 b.2)=some r) :
  ∃ l h:Int,F l h=some r∧((lo.map a.eval=none∧l=0)∨∃ k,lo.map a.eval=some (.int k l))∧((hi.map a.eval=none∧h=n)∨∃ k,hi.map a.eval=some (.int k h)):=by
 rcases hlo with ⟨rfl,rfl⟩ | ⟨x,y,t,rfl,rfl,ht,hdt⟩
 ·rcases hhi with ⟨rfl,rfl⟩ | ⟨x',y',t',rfl,rfl,ht',hdt'⟩
  ·simp at h
   exact ⟨0,n,h,.inl ⟨rfl,rfl⟩,.inl ⟨rfl,rfl⟩⟩
  ·simp only [Option.isSome_none,Option.isSome_some,List.nil_append,List.map_cons,List.map_nil,ht'] at h
   cases t' with
   | l _=>simp at h
   | c v=>cases v with
    | int k m =>
     simp at h
     have:=den_int hdt'
     exact ⟨0,m,h,.inl ⟨rfl,rfl⟩,.inr ⟨k,by simp [this]⟩⟩
    | _=>simp at h
 ·cases t with
  | l _=>rcases hhi with ⟨rfl,rfl⟩ | ⟨x',y',t',rfl,rfl,ht',hdt'⟩ <;> simp [ht] at h
  | c v=>cases v with
   | int k m =>
    have e1:=den_int hdt
    rcases hhi with ⟨rfl,rfl⟩ | ⟨x',y',t',rfl,rfl,ht',hdt'⟩
    ·simp [ht] at h
     exact ⟨m,n,h,.inr ⟨k,by simp [e1]⟩,.inl ⟨rfl,rfl⟩⟩
    ·simp only [Option.isSome_some,List.cons_append,List.nil_append,List.map_cons,List.map_nil,ht,ht'] at h
     cases t' with
     | l _=>simp at h
     | c v'=>cases v' with
      | int k' m' =>
       simp at h
       have e2:=den_int hdt'
       exact ⟨m,m',h,.inr ⟨k,by simp [e1]⟩,.inr ⟨k',by simp [e2]⟩⟩
      | _=>simp at h
   | _=>rcases hhi with ⟨rfl,rfl⟩ | ⟨x',y',t',rfl,rfl,ht',hdt'⟩ <;> simp [ht] at h
theorem run_slice_part {t e:Nat} (ht:P.underlying t=some (.slice e)) {sz:Nat} (hinfo:∃ i,P.info? e=some i∧i.size=sz) {ao:Option Addr} {n cap:Nat} (hc:n≤cap) {lo hi:Option Value} {l h:Int}
  (hlo:(lo=none∧l=0)∨∃ k,lo=some (.int k l)) (hhi:(hi=none∧h=n)∨∃ k,hi=some (.int k h)) (h0:0≤l) (hlh:l≤h) (hh:h≤n) :
  (Instr.sliceAt t (.slice ao n cap) lo hi none).run P w=.ok (sliced ao l.toNat h.toNat cap sz) w:=by
 have hel:P.elem t=e:=by simp [Program.elem,ht]
 have ht':P.underlying t=some (.slice (P.elem t)):=by rw [hel];exact ht
 obtain ⟨i,hi1,hi2⟩:=hinfo
 have hs:(sizeOf (P.elem t)).run P w=.ok sz w:=by rw [hel];simp [sizeOf,typeInfo,hi1,hi2]
 rw [run_sliceAt_slice w t _ _ _ _ ht']
 have hcap:h≤cap:=by omega
 rcases hlo with ⟨rfl,rfl⟩ | ⟨k,rfl⟩
 ·rcases hhi with ⟨rfl,rfl⟩ | ⟨k',rfl⟩
  ·rw [run_slice_all w t ao n cap ht',hs];simp
  ·rw [run_slice_h w t ao n cap ht' k' h hlh hcap,hs];simp
 ·rcases hhi with ⟨rfl,rfl⟩ | ⟨k',rfl⟩
  ·rw [run_slice_l w t ao n cap ht' k l h0 hlh,hs];simp
  ·rw [run_slice_lh w t ao n cap ht' k k' l h h0 hlh hcap,hs];simp
theorem sub_ev {sz:Nat} {b1 b2:Bool} {t r:T} {ts:List T} (h:Prim.ev (.sub sz b1 b2) (t :: ts)=some r):∃ xs,t=.l xs∧okW sz xs=true ∧
  ((match b1,b2,ts with
   | false,false,[]=>some ((0:Int),(xs.length:Int))
   | true,false,[.c (.int _ l)]=>some (l,(xs.length:Int))
   | false,true,[.c (.int _ h)]=>some (0,h)
   | true,true,[.c (.int _ l),.c (.int _ h)]=>some (l,h)
   | _,_,_=>none).bind fun b=>if 0≤b.1 then (if b.1≤b.2 then (if b.2≤xs.length then some (T.l ((xs.take b.2.toNat).drop b.1.toNat)) else none) else none) else none)=some r:=by
 cases t with
 | c v=>simp [Prim.ev] at h
 | l xs =>
  simp only [Prim.ev] at h
  split at h
  ·rename_i hok
   exact ⟨xs,rfl,hok,h⟩
  ·cases h
theorem subs_ev {b1 b2:Bool} {t r:T} {ts:List T} (h:Prim.ev (.subs b1 b2) (t :: ts)=some r):∃ x:ByteArray,t=.c (.string x) ∧
  ((match b1,b2,ts with
   | false,false,[]=>some ((0:Int),(x.size:Int))
   | true,false,[.c (.int _ l)]=>some (l,(x.size:Int))
   | false,true,[.c (.int _ h)]=>some (0,h)
   | true,true,[.c (.int _ l),.c (.int _ h)]=>some (l,h)
   | _,_,_=>none).bind fun b=>if 0≤b.1 then (if b.1≤b.2 then (if b.2≤x.size then some (T.c (.string (x.extract b.1.toNat b.2.toNat))) else none) else none) else none)=some r:=by
 cases t with
 | l xs=>simp [Prim.ev] at h
 | c v =>
  cases v with
  | string x=>exact ⟨x,rfl,h⟩
  | _=>simp [Prim.ev] at h
theorem run_slice_text {t:Nat} (ht:P.underlying t=some .string) {x:ByteArray} {lo hi:Option Value} {l h:Int}
  (hlo:(lo=none∧l=0)∨∃ k,lo=some (.int k l)) (hhi:(hi=none∧h=x.size)∨∃ k,hi=some (.int k h)) (h0:0≤l) (hlh:l≤h) (hh:h≤x.size) :
  (Instr.sliceAt t (.string x) lo hi none).run P w=.ok (.string (x.extract l.toNat h.toNat)) w:=by
 rw [run_sliceAt_string w t _ _ _ _ ht]
 have e1:(h.toNat:Int)=h:=Int.toNat_of_nonneg (by omega)
 rcases hlo with ⟨rfl,rfl⟩ | ⟨k,rfl⟩
 ·rcases hhi with ⟨rfl,rfl⟩ | ⟨k',rfl⟩
  ·rw [run_slice_string_all w t x ht];simp
  ·rw [run_slice_string_h w t x ht k' h hlh hh];simp
 ·rcases hhi with ⟨rfl,rfl⟩ | ⟨k',rfl⟩
  ·rw [run_slice_string_l w t x ht k l h0 hlh];simp
  ·simp [Instr.slice,run_underlying ht,Instr.sliceBounds,run_sliceBound,e1,h0,hlh,hh,(by omega:0≤h)]
theorem st_slice (tys:TyAll P cx) (h:Rel M B d up s ρ G a w) (hn:∀ n,o.dst=some n→n < a.tmps.size) {t:Nat} {x:Operand} {lo hi mx:Option Operand} (ho:o.op=.slice t x lo hi mx)
  (hno:(bif mx.isSome then none else sliceT cx ⟨s.only R,[],ct,[]⟩ t (opnd d (Wk.get ⟨s.only R,[],ct,[]⟩) x) (lo.map (opnd d (Wk.get ⟨s.only R,[],ct,[]⟩))) (hi.map (opnd d (Wk.get ⟨s.only R,[],ct,[]⟩))))=none)
  (hk:stepOp cx fid rid d o oi ⟨s.only R,[],ct,[]⟩=some k') (hd:k'.Done S ρ):Goal P M B d up ρ a w s o k'.w Q∧k'.ct.i=ct.i:=by
 have hw:=WOk.start h R ct
 simp only [stepOp,ho] at hk
 split at hk
 ·rename_i k v he
  exact absurd (he.symm.trans hno) (by simp)
 simp only [Option.bind_eq_some_iff] at hk
 obtain ⟨ti,hti,k1,hth,⟨k2,z⟩,hone,hk⟩:=hk
 obtain ⟨G2,w1,e1,e2,e3,e4,e5,_⟩:=hw.thaws hth
 have hK:Keep (keysOf k1.w) (fun _=>False) G w G2 w:=w1.keep
 have opn:∀ y,RelSV G2 w ρ (opnd d (Wk.get ⟨s.only R,[],ct,[]⟩) y) (a.eval y):=fun y=>(hw.opn y).1.keep hK fun _ _ hf=>hf
 have hs2:k1.Same k2:=by
  unfold Wk.one at hone
  split at hone
  ·exact Wk.val_same hone
  ·cases hone
 have w2:=w1.same hs2
 simp only at hk
 cases mx with
 | some _=>simp at hk
 | none =>
  simp only at hk
  have hk3:∃ k3 ls,bnd1 k2 (opnd d (Wk.get ⟨s.only R,[],ct,[]⟩)) lo=some (k3,ls) ∧
    ∃ k4 hs,bnd1 k3 (opnd d (Wk.get ⟨s.only R,[],ct,[]⟩)) hi=some (k4,hs) ∧
    ((Nat.beq ti.kd 3=true∧∃ te,cx.ty ti.el=some te∧k'=putW d o (k4.em (.sub te.sz lo.isSome hi.isSome) (z :: (ls++hs))).1 (.v false [.p (k4.em (.sub te.sz lo.isSome hi.isSome) (z :: (ls++hs))).2])) ∨
     (Nat.beq ti.kd 2=true∧k'=putW d o (k4.em (.subs lo.isSome hi.isSome) (z :: (ls++hs))).1 (.v false [.p (k4.em (.subs lo.isSome hi.isSome) (z :: (ls++hs))).2]))):=by
   rw [Option.bind_eq_some_iff] at hk
   obtain ⟨⟨k3,ls⟩,h1,hk⟩:=hk
   rw [Option.bind_eq_some_iff] at hk
   obtain ⟨⟨k4,hs⟩,h2,hk⟩:=hk
   refine ⟨k3,ls,?_,k4,hs,?_,?_⟩
   ·cases lo <;> exact h1
   ·cases hi <;> exact h2
   ·simp only at hk
    cases h3:Nat.beq ti.kd 3 with
    | true =>
     simp only [h3,cond_true,Option.bind_eq_some_iff,Option.some.injEq] at hk
     obtain ⟨te,hte,hk⟩:=hk
     exact .inl ⟨rfl,te,hte,hk.symm⟩
    | false =>
     simp only [h3,cond_false] at hk
     cases h4:Nat.beq ti.kd 2 with
     | true =>
      simp only [h4,cond_true,Option.some.injEq] at hk
      exact .inr ⟨rfl,hk.symm⟩
     | false=>simp [h4] at hk
  obtain ⟨k3,ls,hlo,k4,hs,hhi,hfin⟩:=hk3
  have fin:∀ (p:Prim),k'=putW d o (k4.em p (z :: (ls++hs))).1 (.v false [.p (k4.em p (z :: (ls++hs))).2]) →
    ∃ r tz,p.ev (tz :: (ls++hs).map (Lf.ev ρ))=some r∧(∀ c,(opnd d (Wk.get ⟨s.only R,[],ct,[]⟩) x)=.v false [c]→Den G2.q w tz (a.eval x)) ∧
     (∃ c,(opnd d (Wk.get ⟨s.only R,[],ct,[]⟩) x)=.v false [c]) ∧
     ((lo=none∧ls=[])∨∃ x y t,lo=some x∧ls=[y]∧y.ev ρ=t∧Den (er G2.ω) w t (a.eval x))∧((hi=none∧hs=[])∨∃ x y t,hi=some x∧hs=[y]∧y.ev ρ=t∧Den (er G2.ω) w t (a.eval x)) ∧
     (∀ v,(execOp a.eval o).run P w=.ok (.value v) w→Den G2.q w r v→(∀ x,v≠.agg x)→Goal P M B d up ρ a w s o k'.w Q∧k'.ct.i=ct.i):=by
   intro p hp
   subst hp
   have hd':=putW_done.1 hd
   obtain ⟨hd4,r,hr,hrv⟩:=Wk.em_done hd'
   have hs3:k2.Same k3:=by
    unfold bnd1 at hlo
    split at hlo
    ·simp only [Option.some.injEq,Prod.mk.injEq] at hlo;obtain ⟨rfl,_⟩:=hlo;exact .refl _
    ·simp only [Option.bind_eq_some_iff,Option.some.injEq,Prod.mk.injEq] at hlo
     obtain ⟨⟨k5,y5⟩,h5,rfl,_⟩:=hlo
     unfold Wk.one at h5
     split at h5
     ·exact Wk.val_same h5
     ·cases h5
   obtain ⟨hd3,hs4,hb2⟩:=bound_done (w2.same hs3) (f:=opnd d (Wk.get ⟨s.only R,[],ct,[]⟩)) (fun y _=>opn y) hhi hd4
   obtain ⟨hd2,_,hb1⟩:=bound_done w2 (f:=opnd d (Wk.get ⟨s.only R,[],ct,[]⟩)) (fun y _=>opn y) hlo hd3
   have hcx:∃ c,(opnd d (Wk.get ⟨s.only R,[],ct,[]⟩) x)=.v false [c]:=by
    unfold Wk.one at hone
    split at hone
    ·rename_i c hop;exact ⟨c,hop⟩
    ·cases hone
   obtain ⟨c,hc⟩:=hcx
   have hox:=opn x
   rw [hc] at hox hone hth
   obtain ⟨_,hc1,hce,_⟩:=hox
   cases hc1
   have hval:k1.val c=some (k2,z):=hone
   obtain ⟨G2',w1',_,_,_,_,hfz,_⟩:=hw.thaws hth
   obtain ⟨tz,hz,hdz⟩:=Wk.val_plain hval hce w1 (by simpa [csOf] using hfz)
   refine ⟨r,tz,by simpa [Lf.evo_ev hz] using hr,fun _ _=>hdz,⟨c,hc⟩,hb1,hb2,fun v hv hdv hna=>⟨?_,?_⟩⟩
   ·exact value_stepP h (((w2.same hs3).same hs4).same (Wk.em_same _ _ _)) hn hv (plain_rel hrv hdv hna) (fun i hi=>by simp [idsSV,idsCs] at hi) Q
   ·rw [putW_i,(Wk.em_same _ _ _).i,hs4.i,hs3.i,hs2.i,e3]
  have hrun:∀ v,(Instr.sliceAt t (a.eval x) (lo.map a.eval) (hi.map a.eval) none).run P w=.ok v w→(execOp a.eval o).run P w=.ok (.value v) w:=by
   intro v hv
   exact run_op (x:=Instr.sliceAt t (a.eval x) (lo.map a.eval) (hi.map a.eval) none) (by unfold execOp;rw [ho];rfl) hv
  rcases hfin with ⟨h3,te,hte,hk⟩ | ⟨h3,hk⟩
  ·obtain ⟨r,tz,hr,hdz,⟨c,hc⟩,hb1,hb2,hfin⟩:=fin _ hk
   obtain ⟨xs,rfl,hok,hr⟩:=sub_ev hr
   obtain ⟨l,hh,hF,hl1,hl2⟩:=sub_bounds (F:=fun l h=>if 0≤l then (if l≤h then (if h≤xs.length then some (T.l ((xs.take h.toNat).drop l.toNat)) else none) else none) else none) hb1 hb2 hr
   split at hF
   ·rename_i h0
    split at hF
    ·rename_i hlh
     split at hF
     ·rename_i hhx
      simp only [Option.some.injEq] at hF
      subst hF
      have hdx:=hdz c hc
      obtain ⟨ao,cap,hval,hcap⟩:=hdx.rows
      have hT:=tys.ty _ _ hti
      have hE:=tys.ty _ _ hte
      obtain ⟨i,zz,hi1,hi2,_⟩:=hE.info
      by_cases hnil:xs.length≤cap
      ·have hrun2:=run_slice_part (P:=P) (w:=w) (hT.sl (Nat.eq_of_beq_eq_true h3)) ⟨i,hi1,hi2⟩ (ao:=ao) hnil hl1 hl2 h0 hlh hhx
       rw [← hval] at hrun2
       refine hfin _ (hrun _ hrun2) ?_ (fun _ hf=>by unfold sliced at hf;cases hf)
       rw [hval] at hdx
       exact hdx.sub (by omega) (by omega) hok
      ·have hx0:xs=[]:=by
        cases xs with
        | nil=>rfl
        | cons y ys=>exact absurd (hcap (by simp)) hnil
       subst hx0
       simp at hnil
     ·cases hF
    ·cases hF
   ·cases hF
  ·obtain ⟨r,tz,hr,hdz,⟨c,hc⟩,hb1,hb2,hfin⟩:=fin _ hk
   obtain ⟨x',rfl,hr⟩:=subs_ev hr
   obtain ⟨l,hh,hF,hl1,hl2⟩:=sub_bounds (F:=fun l h=>if 0≤l then (if l≤h then (if h≤x'.size then some (T.c (.string (x'.extract l.toNat h.toNat))) else none) else none) else none) hb1 hb2 hr
   split at hF
   ·rename_i h0
    split at hF
    ·rename_i hlh
     split at hF
     ·rename_i hhx
      simp only [Option.some.injEq] at hF
      subst hF
      obtain ⟨hval,_⟩:=(hdz c hc).scalar
      have hT:=tys.ty _ _ hti
      have hrun2:=run_slice_text (P:=P) (w:=w) (hT.st (Nat.eq_of_beq_eq_true h3)) (x:=x') hl1 hl2 h0 hlh hhx
      rw [← hval] at hrun2
      exact hfin _ (hrun _ hrun2) (.c rfl) (fun _ hf=>by cases hf)
     ·cases hF
    ·cases hF
   ·cases hF
end
def Gh.mk2 (G:Gh) (nb:Option Nat) (i:Nat) (f:Lb→Option Lb) (Hn:List (Nat × Nat)→Value) (hHn:∀ p,∃ a n c,Hn p=.slice a n c):Gh where
 ω:=fun b=>if nb=some b then some (.o i []) else (G.ω b).bind f
 β:=G.β
 H:=fun j=>if j=i then Hn else G.H j
 hs:=fun j p=>by
  by_cases h:j=i
  ·simp only [h,if_true];exact hHn p
  ·simp only [h,if_false];exact G.hs j p
section
variable {M:Nat→Prop} {B:Base} {d:Nat} {up:Nat→Nat→Value} {ρ:List T} {G:Gh} {a:Act} {w:World} {S:Nat→Sem1} {P:Program}
variable {cx:Cx} {fid rid oi:Nat} {s:St} {R:List Res} {ct:Ct} {k':Wk} {o:Oper} {Q:Exit→Act→World→Prop}
variable {nb:Option Nat} {i:Nat} {f:Lb→Option Lb} {Hn:List (Nat × Nat)→Value} {hHn:∀ p,∃ a n c,Hn p=.slice a n c} {w':World}
theorem mk2_q (hqf:∀ l l',qt l=true→f l=some l'→qt l'=true) {b:Nat} (hne:nb≠some b) (h0:G.q b=none):(G.mk2 nb i f Hn hHn).q b=none:=by
 refine qf_of h0 (fun h1=>by simp [Gh.mk2,hne,h1]) fun l hl hq=>?_
 cases hfl:f l with
 | none=>exact .inl (by simp [Gh.mk2,hne,hl,hfl])
 | some l'=>exact .inr ⟨l',by simp [Gh.mk2,hne,hl,hfl],hqf l l' hq hfl⟩
theorem mk2_keep {I:Lb→Prop} (hf:∀ l,¬ I l→f l=some l) (hqf:∀ l l',qt l=true→f l=some l'→qt l'=true) (hnb:∀ c,nb=some c→w.heap.size≤c∨∃ l,G.ω c=some l∧I l∧qt l=false) (hs:w.heap.size≤w'.heap.size)
  (hh:∀ b,b < w.heap.size→nb≠some b→w'.heap[b]?=w.heap[b]?) (hlab:∀ b l,G.ω b=some l→b < w.heap.size):Keep I (fun j=>j=i) G w (G.mk2 nb i f Hn hHn) w':=by
 refine ⟨hs,fun b hb h0=>?_,fun b hb h0=>?_,fun b l hb hl=>?_,fun j hj=>?_⟩
 ·have hne:nb≠some b:=by
   intro e
   rcases hnb _ e with h | ⟨l,h,_,hq⟩
   ·omega
   ·exact qf_lab h hq h0
  refine ⟨mk2_q hqf hne h0,hh b hb hne⟩
 ·have hne:nb≠some b:=by
   intro e
   rcases hnb _ e with h | ⟨l,h,_⟩
   ·omega
   ·rw [h0] at h;cases h
  simp [Gh.mk2,hne,h0]
 ·have hlt:=hlab b l hb
  have hne:nb≠some b:=by
   intro e
   rcases hnb _ e with h | ⟨l',h,h',_⟩
   ·omega
   ·rw [hb] at h;cases h;exact hl h'
  exact ⟨by simp [Gh.mk2,hne,hb,hf l hl],hh b hlt hne⟩
 ·exact ⟨rfl,fun _ _=>by simp [Gh.mk2,hj]⟩
theorem run_opw {x:Sem Value} {v:Value} (he:execOp a.eval o=(do let v ← x;pure (Next.value v))) (h:x.run P w=.ok v w'):(execOp a.eval o).run P w=.ok (.value v) w':=by
 rw [he,Sem.run_bind,h];rfl
theorem Goal.mono {M':Nat→Prop} {W:St} (h:Goal P M B d up ρ a w s o W Q) (hM:∀ i,M i→M' i):Goal P M' B d up ρ a w s o W Q :=
 Oper.wp_mono (fun a' w' ⟨G',h1,h2⟩=>⟨G',h1.mono hM,h2⟩) h
theorem new_step {k:Wk} {G1:Gh} (h:Rel M B d up s ρ G a w) (hk:WOk M B d up ρ G a w k G1) (hn:∀ n,o.dst=some n→n < a.tmps.size) (hM:¬ M k.ct.i)
  {W1:St} {kw:Wk} {dp:Bool} {y:Lf} {t:T} {v:Value}
  (hkw:∀ r,kw.w.look r=(St.look ((.o k.ct.i,.ob dp y) :: W1) r).or (k.w.look r)) (hW1:∀ r u,W1.look r=some u→∃ j,r=.o j∧RelObj (G1.mk2 nb k.ct.i f Hn hHn) w' ρ j u∧M j∧∀ i∈idsSV u,M i)
  (hf:∀ l,(∀ j p,l=.o j p→W1.look (.o j)=none)→f l=some l) (hid:∀ l l',(∃ b,G1.ω b=some l)→f l=some l'→M l'.id∨l'.id=k.ct.i)
  (hqf:∀ l l',qt l=true→f l=some l'→qt l'=true) (hnb:∀ c,nb=some c→c=w.heap.size∨∃ j,G1.ω c=some (.o j [])∧W1.look (.o j)≠none∧j % 4≠2) (hs:w.heap.size≤w'.heap.size) (hnb2:∀ c,nb=some c→c < w'.heap.size)
  (hh:∀ b,b < w.heap.size→nb≠some b→w'.heap[b]?=w.heap[b]?) (so:SameOut w w') (hv:v=Hn [])
  (hy:y.evo ρ=some t) (hown:Own (G1.mk2 nb k.ct.i f Hn hHn) w' k.ct.i dp [] t) (hx:(execOp a.eval o).run P w=.ok (.value v) w') :
  Goal P (Mn M k.ct.i (k.ct.i+1)) B d up ρ a w s o (putW d o kw (.v false [.o k.ct.i []])).w Q:=by
 have hnew:Mn M k.ct.i (k.ct.i+1) k.ct.i:=.inr ⟨Nat.le_refl _,Nat.lt_succ_self _⟩
 have hlk:∀ j u,W1.look (.o j)=some u→St.look (dstW d o (.v false [.o k.ct.i []])++((Res.o k.ct.i,SV.ob dp y) :: W1)) (.o j)≠none:=by
  intro j u hu
  rw [look_append]
  intro e
  have:=(Option.or_eq_none_iff.1 e).2
  simp only [St.look,hu] at this
  cases hb:(Res.o k.ct.i).beq (.o j) <;> simp [hb] at this
 have hK:Keep (keysOf (dstW d o (.v false [.o k.ct.i []])++((Res.o k.ct.i,SV.ob dp y) :: W1))) (fun j=>j=k.ct.i) G1 w (G1.mk2 nb k.ct.i f Hn hHn) w':=by
  refine mk2_keep (fun l hl=>hf l fun j p hj=>?_) hqf ?_ hs hh fun b l hb=>(hk.rel.lab b l hb).2
  ·subst hj
   cases hw:W1.look (.o j) with
   | none=>rfl
   | some u=>exact absurd (hlk j u hw) hl
  ·intro c hc
   rcases hnb c hc with rfl | ⟨j,h1,h2,h3⟩
   ·exact .inl (Nat.le_refl _)
   ·obtain ⟨u,hu⟩:=Option.ne_none_iff_exists'.1 h2
    exact .inr ⟨_,h1,hlk j u hu,qt_top h3⟩
 simp only [Goal,Oper.wp,hx,Oper.upon]
 refine ⟨G1.mk2 nb k.ct.i f Hn hHn,mem_step h hk (W2:=dstW d o (.v false [.o k.ct.i []])++((Res.o k.ct.i,SV.ob dp y) :: W1)) (putW_W (W2:=(Res.o k.ct.i,SV.ob dp y) :: W1) hkw)
  hK (fun j hj=>by subst hj;exact hM) (fun j hj=>.inl hj) (fun n hdn=>dst_look hdn) so ?_,put_size _ _ _⟩
 refine ⟨fun e n u he hl=>?_,fun b u hl=>?_,fun j u hl=>?_,fun r u hl j hj=>?_,fun j hj=>?_,fun b l hb=>?_⟩
 ·rcases look_dst hl with ⟨n',hn',e1,rfl⟩ | hl
  ·cases e1
   rw [hn',put_tmv_self (hn _ hn'),hv]
   refine ⟨_,rfl,⟨[],rfl,by simp [Gh.mk2]⟩,fun x hx=>?_⟩
   obtain ⟨a1,a2,a3,e1⟩:=hHn []
   rw [e1] at hx;cases hx
  ·rcases look_cons hl with ⟨e1,_⟩ | hl
   ·cases e1
   ·obtain ⟨j,e1,_⟩:=hW1 _ _ hl;cases e1
 ·rcases look_dst hl with ⟨n',hn',e1,rfl⟩ | hl
  ·cases e1
  ·rcases look_cons hl with ⟨e1,rfl⟩ | hl
   ·cases e1
   ·obtain ⟨j,e1,_⟩:=hW1 _ _ hl;cases e1
 ·rcases look_dst hl with ⟨n',hn',e1,rfl⟩ | hl
  ·cases e1
  ·rcases look_cons hl with ⟨e1,rfl⟩ | hl
   ·cases e1
    exact ⟨t,hy,hown⟩
   ·obtain ⟨j,e1,h2,_⟩:=hW1 _ _ hl;cases e1;exact h2
 ·rcases look_dst hl with ⟨n',hn',e1,rfl⟩ | hl
  ·simp [idsSV,idsCs] at hj;subst hj;exact hnew
  ·rcases look_cons hl with ⟨e1,rfl⟩ | hl
   ·simp [idsSV] at hj
   ·obtain ⟨j',e1,_,_,hm⟩:=hW1 _ _ hl;exact .inl (hm j hj)
 ·have:∀ r:Res,(r=.x j∨r=.o j)→St.look (dstW d o (.v false [.o k.ct.i []])++((Res.o k.ct.i,SV.ob dp y) :: W1)) r≠none→Mn M k.ct.i (k.ct.i+1) j:=by
   intro r hr hl
   obtain ⟨u,hu⟩:=Option.ne_none_iff_exists'.1 hl
   rcases look_dst hu with ⟨n',hn',e1,rfl⟩ | hl
   ·rcases hr with rfl | rfl <;> cases e1
   ·rcases look_cons hl with ⟨e1,rfl⟩ | hl
    ·rcases hr with rfl | rfl
     ·cases e1
     ·cases e1;exact hnew
    ·obtain ⟨j',e1,_,hm,_⟩:=hW1 _ _ hl
     rcases hr with rfl | rfl
     ·cases e1
     ·cases e1;exact .inl hm
  rcases hj with hj | hj
  ·exact this _ (.inl rfl) hj
  ·exact this _ (.inr rfl) hj
 ·simp only [Gh.mk2] at hb
  split at hb
  ·rename_i he
   cases hb
   exact ⟨hnew,hnb2 _ he⟩
  ·obtain ⟨l0,h0,h1⟩:=Option.bind_eq_some_iff.1 hb
   obtain ⟨_,hlt⟩:=hk.rel.lab b l0 h0
   refine ⟨?_,by omega⟩
   rcases hid l0 l ⟨_,h0⟩ h1 with hm | he
   ·exact .inl hm
   ·rw [he];exact hnew
end
section
variable {M:Nat→Prop} {B:Base} {d:Nat} {up:Nat→Nat→Value} {ρ:List T} {G:Gh} {a:Act} {w:World} {S:Nat→Sem1} {P:Program}
variable {cx:Cx} {fid rid oi:Nat} {s:St} {R:List Res} {ct:Ct} {k':Wk} {o:Oper} {Q:Exit→Act→World→Prop}
def zT:List Ce→List T
 | []=>[]
 | .p (.k v) :: cs=>.c v :: zT cs
 | _ :: cs=>.l [] :: zT cs
theorem zero_vals:∀ {zs:List Ce} {vs:List Value} {k k1:Wk} {xs:List Lf},ZeroOk zs vs→k.vals zs=some (k1,xs)→k1=k∧xs.map (Lf.ev ρ)=zT zs
 | [],[],k,k1,xs,_,h=>by simp [Wk.vals] at h;obtain ⟨rfl,rfl⟩:=h;exact ⟨rfl,rfl⟩
 | [],_ :: _,_,_,_,h,_=>h.elim
 | .p (.k v) :: cs,v' :: vs,k,k1,xs,h,hk=>by
  obtain ⟨rfl,hs,h⟩:=h
  simp only [Wk.vals,Wk.val,Option.bind_some,Option.bind_eq_some_iff,Option.some.injEq,Prod.mk.injEq] at hk
  obtain ⟨⟨k2,ys⟩,h2,rfl,rfl⟩:=hk
  obtain ⟨rfl,h3⟩:=zero_vals h h2
  exact ⟨rfl,by simp [zT,h3,Lf.ev]⟩
 | .n :: cs,v' :: vs,k,k1,xs,h,hk=>by
  obtain ⟨rfl,h⟩:=h
  simp only [Wk.vals,Wk.val,Option.bind_some,Option.bind_eq_some_iff,Option.some.injEq,Prod.mk.injEq] at hk
  obtain ⟨⟨k2,ys⟩,h2,rfl,rfl⟩:=hk
  obtain ⟨rfl,h3⟩:=zero_vals h h2
  exact ⟨rfl,by simp [zT,h3,Lf.ev]⟩
 | .p (.k _) :: _,[],_,_,_,h,_=>h.elim
 | .n :: _,[],_,_,_,h,_=>h.elim
 | .p (.a _) :: _,[],_,_,_,h,_=>h.elim
 | .p (.a _) :: _,_ :: _,_,_,_,h,_=>h.elim
 | .p .e :: _,[],_,_,_,h,_=>h.elim
 | .p .e :: _,_ :: _,_,_,_,h,_=>h.elim
 | .o _ _ :: _,[],_,_,_,h,_=>h.elim
 | .o _ _ :: _,_ :: _,_,_,_,h,_=>h.elim
 | .d :: _,[],_,_,_,h,_=>h.elim
 | .d :: _,_ :: _,_,_,_,h,_=>h.elim
theorem zero_at:∀ {zs:List Ce} {vs:List Value},ZeroOk zs vs→(zT zs).length=vs.length∧∀ (j:Nat) (t:T),(zT zs)[j]?=some t →
  ∃ v,vs[j]?=some v∧((t=.c v∧scV v=true)∨(t=.l []∧v=.slice none 0 0))
 | [],[],_=>⟨rfl,fun j t h=>by simp [zT] at h⟩
 | [],_ :: _,h=>h.elim
 | .p (.k v) :: cs,v' :: vs,h=>by
  obtain ⟨rfl,hs,h⟩:=h
  obtain ⟨h1,h2⟩:=zero_at h
  refine ⟨by simp [zT,h1],fun j t ht=>?_⟩
  cases j with
  | zero=>simp [zT] at ht;subst ht;exact ⟨v,rfl,.inl ⟨rfl,hs⟩⟩
  | succ j=>simpa using h2 j t (by simpa [zT] using ht)
 | .n :: cs,v' :: vs,h=>by
  obtain ⟨rfl,h⟩:=h
  obtain ⟨h1,h2⟩:=zero_at h
  refine ⟨by simp [zT,h1],fun j t ht=>?_⟩
  cases j with
  | zero=>simp [zT] at ht;subst ht;exact ⟨_,rfl,.inr ⟨rfl,rfl⟩⟩
  | succ j=>simpa using h2 j t (by simpa [zT] using ht)
 | .p (.k _) :: _,[],h=>h.elim
 | .n :: _,[],h=>h.elim
 | .p (.a _) :: _,[],h=>h.elim
 | .p (.a _) :: _,_ :: _,h=>h.elim
 | .p .e :: _,[],h=>h.elim
 | .p .e :: _,_ :: _,h=>h.elim
 | .o _ _ :: _,[],h=>h.elim
 | .o _ _ :: _,_ :: _,h=>h.elim
 | .d :: _,[],h=>h.elim
 | .d :: _,_ :: _,h=>h.elim
theorem made_get {z:Array Value} {n i j:Nat} (hj:j < z.size) (hi:i < n):(madeCells z (n * z.size))[i * z.size+j]?=z[j]?:=by
 have hlt:i * z.size+j < n * z.size:=by
  have:(i+1) * z.size≤n * z.size:=Nat.mul_le_mul_right _ hi
  rw [Nat.add_mul] at this
  omega
 have hm:(i * z.size+j) % z.size=j:=by rw [Nat.add_comm,Nat.add_mul_mod_self_right,Nat.mod_eq_of_lt hj]
 simp [madeCells,hlt,hm,hj]
theorem at2_rep {n i j:Nat} {ts:List T} {t:T} (h:at2 (List.replicate n ts) i j=some t):i < n∧ts[j]?=some t:=by
 unfold at2 at h
 rw [List.getElem?_replicate] at h
 split at h
 ·rename_i hi;exact ⟨hi,h⟩
 ·simp at h
theorem mk_ev {t t' r:T} {ts:List T} (h:Prim.ev .mk (t :: t' :: ts)=some r):∃ (k k2:IntKind) (n c:Int),t=.c (.int k n)∧t'=.c (.int k2 c)∧0≤n∧n=c∧c < cap32∧r=.l (List.replicate n.toNat ts):=by
 cases t with
 | l _=>simp [Prim.ev] at h
 | c v =>
  cases v with
  | int k n =>
   cases t' with
   | l _=>simp [Prim.ev] at h
   | c v' =>
    cases v' with
    | int k2 c =>
     simp only [Prim.ev] at h
     split at h
     ·split at h
      ·split at h
       ·simp only [Option.some.injEq] at h
        exact ⟨k,k2,n,c,rfl,rfl,by assumption,by assumption,by assumption,h.symm⟩
       ·cases h
      ·cases h
     ·cases h
    | _=>simp [Prim.ev] at h
  | _=>cases t' <;> simp [Prim.ev] at h
theorem st_makeSlice (tys:TyAll P cx) (h:Rel M B d up s ρ G a w) (hn:∀ n,o.dst=some n→n < a.tmps.size) {t:Nat} {x y:Operand} (ho:o.op=.makeSlice t x y)
  (hk:stepOp cx fid rid d o oi ⟨s.only R,[],ct,[]⟩=some k') (hd:k'.Done S ρ) (hM:∀ i,ct.i≤i→i < k'.ct.i→¬ M i):Goal P (Mn M ct.i k'.ct.i) B d up ρ a w s o k'.w Q:=by
 have hw:=WOk.start h R ct
 simp only [stepOp,ho,Option.bind_eq_some_iff] at hk
 obtain ⟨ti,hti,te,hte,⟨k1,n⟩,h1,⟨k2,m⟩,h2,⟨k3,zs⟩,h3,hk⟩:=hk
 cases hc:(Nat.beq ti.kd 3 && Nat.ble te.bytes 65536 && Nat.blt 0 te.sz) with
 | false=>simp [hc] at hk
 | true =>
  simp only [hc,cond_true,Option.some.injEq] at hk
  simp only [Bool.and_eq_true] at hc
  obtain ⟨⟨hc1,hc2⟩,hc3⟩:=hc
  have hT:=tys.ty _ _ hti
  have hE:=tys.ty _ _ hte
  obtain ⟨i,z,hi1,hi2,hi3,hi4,hzo⟩:=hE.info
  have hu:=hT.sl (Nat.eq_of_beq_eq_true hc1)
  obtain ⟨rfl,hzs⟩:=zero_vals (ρ:=ρ) hzo h3
  obtain ⟨hzl,hza⟩:=zero_at hzo
  have hsz:z.cells.size=te.sz:=by
   have:=(zero_rel (G:=G) (w:=w) (ρ:=ρ) hzo).1.length
   rw [hE.zlen] at this
   simpa using this.symm
  have hk2:putW d o { (k3.em .mk (n :: m :: zs)).1.set (.o (evN k3.ct.i)) (.ob true (k3.em .mk (n :: m :: zs)).2) with ct:=⟨(k3.em .mk (n :: m :: zs)).1.ct.a,evN k3.ct.i+1⟩ } (.v false [.o (evN k3.ct.i) []])=k':=hk
  have hd1:(k3.em .mk (n :: m :: zs)).1.Done S ρ:=by
   rw [← hk2] at hd
   have h2:=putW_done.1 hd
   exact h2
  obtain ⟨hd3,r,hr,hrv⟩:=Wk.em_done hd1
  have hs1:Wk.Same ⟨s.only R,[],ct,[]⟩ k1:=by
   unfold Wk.one at h1
   split at h1
   ·exact Wk.val_same h1
   ·cases h1
  obtain ⟨hd2,hs2,tm,hm,hdm⟩:=Wk.one_done (hw.same hs1) h2 hd3 (hw.opn y).1
  obtain ⟨_,_,tn,hn1,hdn⟩:=Wk.one_done hw h1 hd2 (hw.opn x).1
  have hwk:=((hw.same hs1).same hs2).same (Wk.em_same k3 .mk (n :: m :: zs))
  have hi0:k3.ct.i=ct.i:=by rw [hs2.i,hs1.i]
  simp only [List.map_cons,hzs,Lf.evo_ev hm,Lf.evo_ev hn1] at hr
  obtain ⟨kn,kc,nn,cc,rfl,rfl,g1,g2,g3,rfl⟩:=mk_ev hr
  have en:=den_int hdn
  have ec:=den_int hdm
  have hb:=Nat.le_of_ble_eq_true hc2
  have hcap:cc < 4294967296:=g3
  have hbytes:(i.bytes:Int) * cc≤281474976710656:=by
   rw [hi3]
   have e1:(te.bytes:Int)≤65536:=by omega
   have h0:(0:Int)≤cc:=by omega
   calc (te.bytes:Int) * cc≤65536 * cc:=Int.mul_le_mul_of_nonneg_right e1 h0
    _≤281474976710656:=by omega
  have hrun:=run_make (P:=P) w t ti.el i z hu hi1 hi4 kn kc nn cc g1 (by omega) hbytes (by omega)
  rw [hi2,← hsz] at hrun
  have hct:k'.ct.i=evN ct.i+1:=by rw [← hk2,putW_i,← hi0]
  have hev:=evN_le ct.i
  have hnc:nn.toNat≤cc.toNat:=by omega
  let Hn:List (Nat × Nat)→Value:=fun p=>match p with | []=>.slice (some ⟨w.heap.size,0,none⟩) nn.toNat cc.toNat | _=>.slice none 0 0
  have hHn:∀ p,∃ a n c,Hn p=.slice a n c:=fun p=>by cases p <;> exact ⟨_,_,_,rfl⟩
  rw [hct,← hk2,← hi0]
  refine Goal.mono (M:=Mn M (evN k3.ct.i) (evN k3.ct.i+1)) ?_ (fun i hi=>hi.imp_right fun hi=>by rw [hi0] at hi ⊢;exact ⟨by omega,hi.2⟩)
  refine new_step (nb:=some w.heap.size) (f:=some) (Hn:=Hn) (hHn:=hHn) (w':=w.alloc (.cells (madeCells z.cells (cc.toNat * z.cells.size)) ti.el)) (k:={ (k3.em .mk (n :: m :: zs)).1 with ct:=⟨(k3.em .mk (n :: m :: zs)).1.ct.a,evN k3.ct.i⟩ }) (W1:=[]) (t:=.l (List.replicate nn.toNat (zT te.zero)))
   h (show WOk M B d up ρ G a w { (k3.em .mk (n :: m :: zs)).1 with ct:=⟨(k3.em .mk (n :: m :: zs)).1.ct.a,evN k3.ct.i⟩ } G from ⟨hwk.rel,hwk.keep⟩) hn (hM _ (by show ct.i≤evN k3.ct.i;rw [hi0];exact hev) (by rw [hct];show evN k3.ct.i < _;rw [hi0];omega)) (fun r=>by exact set_W (k:=(k3.em .mk (n :: m :: zs)).1) r) (fun r u hu=>by cases hu) (fun l _=>rfl) (fun l l' ⟨b,hb⟩ he=>by cases he;exact .inl (hwk.rel.lab b _ hb).1)
   (fun l l' hq he=>by cases he;exact hq) (fun c hc=>by cases hc;exact .inl rfl) (by simp) (fun c hc=>by cases hc;simp) (fun b hb _=>heap_alloc_old w _ b hb) (so_alloc _ _) rfl hrv ?_ (run_opw (x:=Instr.makeSlice t (a.eval x) (a.eval y)) (by unfold execOp;rw [ho]) (by rw [en,ec];exact hrun))
  have hlen:(List.replicate nn.toNat (zT te.zero)).length=nn.toNat:=by simp
  have hzT:(zT te.zero).length=z.cells.size:=by rw [hzl];simp
  have zat:∀ (ii j:Nat) (t:T),at2 (List.replicate nn.toNat (zT te.zero)) ii j=some t→ii < nn.toNat∧j < z.cells.size∧∃ v,z.cells[j]?=some v∧((t=.c v∧scV v=true)∨(t=.l []∧v=.slice none 0 0)):=by
   intro ii j t ht
   obtain ⟨q1,q2⟩:=at2_rep ht
   obtain ⟨v,q3,q4⟩:=hza j t q2
   refine ⟨q1,?_,v,by simpa using q3,q4⟩
   rw [← hzT];exact (List.getElem?_eq_some_iff.1 q2).1
  refine .l (wd:=z.cells.size) (cv:=fun _ j=>z.cells.getD j undef) (by rw [hlen];simp [Gh.mk2,Hn]) ⟨by rw [hlen];exact hnc,fun he=>by have:=congrArg List.length he;simp at this;omega⟩ (by simp [Gh.mk2]) (heap_alloc_new w _) (size_madeCells _ _) (fun r hr=>?_) ?_ ?_ (fun _ _ _ _ hf=>by cases hf) ?_ ?_
  ·rw [List.eq_of_mem_replicate hr];exact hzT
  ·intro ii j t ht
   obtain ⟨q1,q2,v,q3,_⟩:=zat ii j t ht
   rw [made_get q2 (by omega),q3]
   simp [Array.getD_eq_getD_getElem?,q3]
  ·intro ii j v ht
   obtain ⟨q1,q2,u,q3,q4⟩:=zat ii j _ ht
   rcases q4 with ⟨e1,e2⟩ | ⟨e1,_⟩
   ·cases e1
    exact ⟨by simp [Array.getD_eq_getD_getElem?,q3],e2⟩
   ·cases e1
  ·intro ii j ys ht _
   obtain ⟨q1,q2,u,q3,q4⟩:=zat ii j _ ht
   rcases q4 with ⟨e1,e2⟩ | ⟨e1,e2⟩
   ·cases e1
   ·simp [Array.getD_eq_getD_getElem?,q3,e2,Gh.mk2,Hn]
  ·intro ii j ys ht _
   obtain ⟨q1,q2,u,q3,q4⟩:=zat ii j _ ht
   rcases q4 with ⟨e1,e2⟩ | ⟨e1,e2⟩
   ·cases e1
   ·cases e1
    exact .nil (by simp [Gh.mk2,Hn])
end
theorem Own.move {G:Gh} {w:World} {id:Nat} {p:List (Nat × Nat)} {t:T} {dp:Bool} (h:Own G w id dp p t) (hdp:dp=true) {G':Gh} {w':World} {id':Nat} {p':List (Nat × Nat)}
  (hω:∀ c r,G.ω c=some (.o id (p++r))→G'.ω c=some (.o id' (p'++r))∧w'.heap[c]?=w.heap[c]?) (hH:∀ r,G'.H id' (p'++r)=G.H id (p++r)):Own G' w' id' dp p' t:=by
 induction h generalizing p' with
 | nil h=>exact .nil (by have:=hH [];simp only [List.append_nil] at this;rw [this];exact h)
 | @l dp p xs b wd cap arr elem cv h1 h2 h3 h4 h5 h6 h7 h8 h9 h10 h11 ih =>
  have hb:=hω b [] (by simpa using h3)
  simp only [List.append_nil] at hb
  have h0:=hH []
  simp only [List.append_nil] at h0
  refine .l (by rw [h0];exact h1) h2 hb.1 (hb.2.trans h4) h5 h6 h7 h8 (fun i j ys hy hd=>by rw [hdp] at hd;cases hd) (fun i j ys hy hd=>by rw [hH [(i,j)]];exact h10 i j ys hy hd) fun i j ys hy hd=>?_
  refine ih i j ys hy hd rfl (p':=p'++[(i,j)]) (fun c r hc=>?_) fun r=>?_
  ·have:=hω c ((i,j) :: r) (by simpa using hc)
   simpa using this
  ·have:=hH ((i,j) :: r)
   simpa using this
structure Cont (G:Gh) (w:World) (id:Nat) (dp:Bool) (sz n0:Nat) (xs:List (List T)) (cv:Nat→Nat→Value):Prop where
 wd:∀ r∈xs,r.length=sz
 sc:∀ i j v,at2 xs i j=some (.c v)→cv i j=v∧scV v=true
 pl:∀ i j ys,at2 xs i j=some (.l ys)→dp=false→Den G.q w (.l ys) (cv i j)
 hd:∀ i j ys,at2 xs i j=some (.l ys)→dp=true→cv i j=G.H id [(n0+i,j)]
 ow:∀ i j ys,at2 xs i j=some (.l ys)→dp=true→Own G w id true [(n0+i,j)] (.l ys)
theorem at2_append {xs ys:List (List T)} {i j:Nat} {t:T} (h:at2 (xs++ys) i j=some t) :
  (i < xs.length∧at2 xs i j=some t)∨(xs.length≤i∧at2 ys (i - xs.length) j=some t):=by
 unfold at2 at h ⊢
 by_cases hi:i < xs.length
 ·rw [List.getElem?_append_left hi] at h;exact .inl ⟨hi,h⟩
 ·rw [List.getElem?_append_right (by omega)] at h;exact .inr ⟨by omega,h⟩
theorem Cont.join {G:Gh} {w:World} {id:Nat} {dp:Bool} {sz:Nat} {xs ys:List (List T)} {cv cv':Nat→Nat→Value} (hx:Cont G w id dp sz 0 xs cv) (hy:Cont G w id dp sz xs.length ys cv')
  {b cap:Nat} {arr:Array Value} {elem:TypeId} (hH:G.H id []=.slice (some ⟨b,0,none⟩) (xs.length+ys.length) cap) (hc:xs.length+ys.length≤cap∧(xs++ys=[]→cap=0)) (hω:G.ω b=some (.o id []))
  (hh:w.heap[b]?=some (.cells arr elem (0,0))) (hs:arr.size=cap * sz) (h1:∀ i j,i < xs.length→j < sz→arr[i * sz+j]?=some (cv i j))
  (h2:∀ i j,i < ys.length→j < sz→arr[(xs.length+i) * sz+j]?=some (cv' i j)):Own G w id dp [] (.l (xs++ys)):=by
 have lx:∀ {i j:Nat} {t:T},at2 xs i j=some t→i < xs.length∧j < sz:=by
  intro i j t ht
  obtain ⟨r,_,hm,_,q1,q2⟩:=at2_row ht
  exact ⟨q1,by rw [← hx.wd r hm];exact q2⟩
 have ly:∀ {i j:Nat} {t:T},at2 ys i j=some t→i < ys.length∧j < sz:=by
  intro i j t ht
  obtain ⟨r,_,hm,_,q1,q2⟩:=at2_row ht
  exact ⟨q1,by rw [← hy.wd r hm];exact q2⟩
 let c:Nat→Nat→Value:=fun i j=>if i < xs.length then cv i j else cv' (i - xs.length) j
 refine .l (cv:=c) (by rw [List.length_append];exact hH) (by rw [List.length_append];exact hc) hω hh hs (fun r hr=>?_) ?_ ?_ ?_ ?_ ?_
 ·rcases List.mem_append.1 hr with hr | hr
  ·exact hx.wd r hr
  ·exact hy.wd r hr
 ·intro i j t ht
  rcases at2_append ht with ⟨q,ht⟩ | ⟨q,ht⟩
  ·simp only [c,if_pos q];exact h1 i j q (lx ht).2
  ·have:=h2 (i - xs.length) j (ly ht).1 (ly ht).2
   rw [show xs.length+(i - xs.length)=i by omega] at this
   simp only [c,if_neg (show ¬ i < xs.length by omega)];exact this
 ·intro i j v ht
  rcases at2_append ht with ⟨q,ht⟩ | ⟨q,ht⟩
  ·simp only [c,if_pos q];exact hx.sc i j v ht
  ·simp only [c,if_neg (show ¬ i < xs.length by omega)];exact hy.sc _ j v ht
 ·intro i j zs ht hd
  rcases at2_append ht with ⟨q,ht⟩ | ⟨q,ht⟩
  ·simp only [c,if_pos q];exact hx.pl i j zs ht hd
  ·simp only [c,if_neg (show ¬ i < xs.length by omega)];exact hy.pl _ j zs ht hd
 ·intro i j zs ht hd
  rcases at2_append ht with ⟨q,ht⟩ | ⟨q,ht⟩
  ·simp only [c,if_pos q];have:=hx.hd i j zs ht hd;simpa using this
  ·have:=hy.hd _ j zs ht hd
   rw [show xs.length+(i - xs.length)=i by omega] at this
   simp only [c,if_neg (show ¬ i < xs.length by omega)];simpa using this
 ·intro i j zs ht hd
  rcases at2_append ht with ⟨q,ht⟩ | ⟨q,ht⟩
  ·have:=hx.ow i j zs ht hd;simpa using this
  ·have:=hy.ow _ j zs ht hd
   rw [show xs.length+(i - xs.length)=i by omega] at this
   simpa using this
def flatC (cv:Nat→Nat→Value) (sz m:Nat):List Value:=(List.range (m * sz)).map fun k=>cv (k / sz) (k % sz)
theorem flatC_length (cv:Nat→Nat→Value) (sz m:Nat):(flatC cv sz m).length=m * sz:=by simp [flatC]
theorem flatC_get {cv:Nat→Nat→Value} {sz m i j:Nat} (hi:i < m) (hj:j < sz):(flatC cv sz m)[i * sz+j]?=some (cv i j):=by
 have hlt:i * sz+j < m * sz:=by
  have:(i+1) * sz≤m * sz:=Nat.mul_le_mul_right _ hi
  rw [Nat.add_mul] at this
  omega
 have h1:(i * sz+j) / sz=i:=by rw [Nat.add_comm,Nat.add_mul_div_right _ _ (by omega),Nat.div_eq_of_lt hj];omega
 have h2:(i * sz+j) % sz=j:=by rw [Nat.add_comm,Nat.add_mul_mod_self_right,Nat.mod_eq_of_lt hj]
 simp [flatC,hlt,h1,h2]
theorem flatC_mem {cv:Nat→Nat→Value} {sz m:Nat} {v:Value} (hsz:0 < sz) (h:v∈flatC cv sz m):∃ i j,i < m∧j < sz∧v=cv i j:=by
 simp only [flatC,List.mem_map,List.mem_range] at h
 obtain ⟨k,hk,rfl⟩:=h
 exact ⟨k / sz,k % sz,Nat.div_lt_of_lt_mul (by rw [Nat.mul_comm];exact hk),Nat.mod_lt _ hsz,rfl⟩
section
variable {ρ:List T} {w:World} {P:Program}
theorem okW_all {sz wd:Nat} {xs:List (List T)} (hw:∀ r∈xs,r.length=wd) (hok:okW sz xs=true):∀ r∈xs,r.length=sz:=by
 intro r hr
 cases xs with
 | nil=>cases hr
 | cons x xs =>
  have h1:=hw x (by simp)
  have h2:=Nat.eq_of_beq_eq_true hok
  rw [hw r hr,← h1,h2]
theorem at2_some {xs:List (List T)} {sz i j:Nat} (hw:∀ r∈xs,r.length=sz) (hi:i < xs.length) (hj:j < sz):∃ t,at2 xs i j=some t:=by
 have hr:=List.getElem?_eq_getElem hi
 have hl:=hw xs[i] (List.getElem_mem hi)
 exact ⟨xs[i][j],by simp [at2,hr,List.getElem?_eq_getElem (show j < xs[i].length by omega)]⟩
theorem den_src {ω:Nat→Option Lb} {ys:List (List T)} {v:Value} (h:Den ω w (.l ys) v) {sz:Nat} (hsz:0 < sz) (hok:okW sz ys=true) {tx e':TypeId} (ht:P.underlying tx=some (.slice e')) :
  ∃ cv:Nat→Nat→Value,Src P sz tx v ys.length (flatC cv sz ys.length) w∧(∀ r∈ys,r.length=sz)∧(∀ i j t,at2 ys i j=some t→Den ω w t (cv i j)) ∧
   (∀ b off n cap,v=.slice (some ⟨b,off,none⟩) n cap→∀ i j t,at2 ys i j=some t→w.cell? ⟨b,off+(i * sz+j),none⟩=some (cv i j)):=by
 cases h with
 | nil =>
  rename_i ao cap
  refine ⟨fun _ _=>undef,?_,(fun r hr=>by cases hr),(fun i j t h=>by simp [at2] at h),fun _ _ _ _ _ i j t h=>by simp [at2] at h⟩
  have e0:flatC (fun _ _=>undef) sz ([]:List (List T)).length=[]:=by simp [flatC]
  rw [e0]
  cases ao with
  | none=>exact Src.ofNil w ht cap
  | some ad=>exact Src.ofSlice w ht ad 0 cap [] (by simp) (fun j u hu=>by simp at hu) fun u hu=>by cases hu
 | @l _ b off wd cap cv hw hc hb hlt h1 h2 =>
  have hw':=okW_all hw hok
  have hsame:ys=[]∨wd=sz:=by
   cases ys with
   | nil=>exact .inl rfl
   | cons y ys=>exact .inr ((hw y (by simp)).symm.trans (hw' y (by simp)))
  have hcell:∀ i j t,at2 ys i j=some t→w.cell? ⟨b,off+(i * sz+j),none⟩=some (cv i j):=by
   intro i j t hat
   rcases hsame with rfl | rfl
   ·simp [at2] at hat
   ·exact h1 i j t hat
  refine ⟨cv,Src.ofSlice w ht ⟨b,off,none⟩ ys.length cap _ (flatC_length _ _ _) (fun k u hu=>?_) (fun u hu=>?_),hw',h2,fun b' off' n' cap' he=>by cases he;exact hcell⟩
  ·have hk:k < ys.length * sz:=by rw [← flatC_length cv sz ys.length];exact (List.getElem?_eq_some_iff.1 hu).1
   have hi:k / sz < ys.length:=Nat.div_lt_of_lt_mul (by rw [Nat.mul_comm];exact hk)
   have hj:k % sz < sz:=Nat.mod_lt _ hsz
   have hk':(k / sz) * sz+k % sz=k:=by rw [Nat.mul_comm];exact Nat.div_add_mod k sz
   obtain ⟨t,hat⟩:=at2_some hw' hi hj
   have:=flatC_get (cv:=cv) hi hj
   rw [hk',hu] at this
   cases this
   have hc2:=hcell _ _ t hat
   rw [hk'] at hc2
   rw [Addr.add_lit]
   exact hc2
  ·obtain ⟨i,j,hi,hj,rfl⟩:=flatC_mem hsz hu
   obtain ⟨t,hat⟩:=at2_some hw' hi hj
   exact (h2 i j t hat).one
end
section
variable {P:Program} {w:World}
theorem setCells_heap (b:Nat) (t:TypeId):∀ (vs:List Value) (o:Nat) (w:World) (arr:Array Value),w.heap[b]?=some (.cells arr t (0,0)) →
  (w.setCells b o vs).heap[b]?=some (.cells (setsAt vs o arr) t (0,0))∧(∀ c,c≠b→(w.setCells b o vs).heap[c]?=w.heap[c]?)∧(w.setCells b o vs).heap.size=w.heap.size ∧
   SameOut w (w.setCells b o vs)
 | [],o,w,arr,h=>⟨h,fun _ _=>rfl,rfl,⟨rfl,rfl,rfl⟩⟩
 | v :: vs,o,w,arr,h=>by
  have h1:=heap_setCell_same w b o arr t v h
  obtain ⟨g1,g2,g3,g4⟩:=setCells_heap b t vs (o+1) _ _ h1
  refine ⟨g1,fun c hc=>(g2 c hc).trans (heap_setCell_other w ⟨b,o,none⟩ c v hc),?_,?_⟩
  ·rw [World.setCells,g3];simp
  ·exact ⟨g4.os.trans rfl,g4.tape.trans rfl,g4.output.trans rfl⟩
def Room (w:World) (sz:Nat) (v:Value) (n:Nat) (b0:Option Nat) (cv:Nat→Nat→Value):Prop :=
 (v=.slice none 0 0∧n=0∧b0=none)∨∃ b cap arr elem,v=.slice (some ⟨b,0,none⟩) n cap∧b0=some b∧w.heap[b]?=some (.cells arr elem (0,0))∧arr.size=cap * sz∧n≤cap∧(n=0→cap=0) ∧
  ∀ i j,i < n→j < sz→arr[i * sz+j]?=some (cv i j)
structure Appd (w w':World) (sz:Nat) (v':Value) (n m:Nat) (b0 nb:Option Nat) (cv cv':Nat→Nat→Value):Prop where
 so:SameOut w w'
 size:w.heap.size≤w'.heap.size
 oth:∀ c,c < w.heap.size→nb≠some c→w'.heap[c]?=w.heap[c]?
 at_:∀ c,nb=some c→(c=w.heap.size∨b0=some c)∧c < w'.heap.size
 row:(nb=none∧v'=.slice none 0 0∧n=0∧m=0)∨∃ b cap arr elem,nb=some b∧v'=.slice (some ⟨b,0,none⟩) (n+m) cap∧w'.heap[b]?=some (.cells arr elem (0,0))∧arr.size=cap * sz∧n+m≤cap∧(n+m=0→cap=0) ∧
  (∀ i j,i < n→j < sz→arr[i * sz+j]?=some (cv i j))∧∀ i j,i < m→j < sz→arr[(n+i) * sz+j]?=some (cv' i j)
theorem mul_lt {i n j sz:Nat} (hi:i < n) (hj:j < sz):i * sz+j < n * sz:=by
 have:(i+1) * sz≤n * sz:=Nat.mul_le_mul_right _ hi
 rw [Nat.add_mul] at this
 omega
theorem flat_prefix {arr:Array Value} {sz n:Nat} {cv:Nat→Nat→Value} (hsz:0 < sz) (h:∀ i j,i < n→j < sz→arr[i * sz+j]?=some (cv i j)) {k:Nat} {u:Value} (hu:(flatC cv sz n)[k]?=some u):arr[k]?=some u:=by
 have hk:k < n * sz:=by rw [← flatC_length cv sz n];exact (List.getElem?_eq_some_iff.1 hu).1
 have hi:k / sz < n:=Nat.div_lt_of_lt_mul (by rw [Nat.mul_comm];exact hk)
 have hj:k % sz < sz:=Nat.mod_lt _ hsz
 have hk':(k / sz) * sz+k % sz=k:=by rw [Nat.mul_comm];exact Nat.div_add_mod k sz
 have h1:=flatC_get (cv:=cv) hi hj
 rw [hk',hu] at h1
 cases h1
 have h2:=h _ _ hi hj
 rw [hk'] at h2
 exact h2
theorem run_append_any {t tx ty e:TypeId} {i:TypeInfo} {z:Value} (ht:P.underlying t=some (.slice e)) (hi:P.info? e=some i) (hz:i.zero=some z) {sz:Nat} (hs:i.size=sz) (hzs:z.cells.size=sz) (hsz:0 < sz)
  (hby:i.bytes≤32768) {va vb:Value} {n m:Nat} {b0:Option Nat} {cv cv':Nat→Nat→Value} (hr:Room w sz va n b0 cv) (hsrc:Src P sz tx vb m (flatC cv' sz m) w) (hcap:n+m < cap32) :
  ∃ v' w' nb,(Builtin.append_ #[t,tx] ty #[va,vb]).run P w=.ok v' w'∧Appd w w' sz v' n m b0 nb cv cv':=by
 subst hs
 have hcap':n+m < 4294967296:=hcap
 have grown:∀ (base:Option Addr) (sCap:Nat),(Builtin.firstCells i.size n (.slice base n sCap)).run P w.drew=.ok (flatC cv i.size n).toArray w.drew→sCap < n+m →
   ∃ v' w' nb,(Builtin.append_ #[t,tx] ty #[.slice base n sCap,vb]).run P w=.ok v' w'∧Appd w w' i.size v' n m b0 nb cv cv':=by
  intro base sCap hold hlt
  have hfit:Builtin.nextslicecap (n+m) sCap * i.bytes≤281474976710656:=growslice_fits (by omega) (by
   calc (n+m) * i.bytes≤4294967296 * 32768:=Nat.mul_le_mul (by omega) hby
    _=140737488355328:=by rfl)
  have hrun:=run_append_grow_src (P:=P) w t tx ty e i z ht hi hz base n sCap _ hold vb m _ hsrc hlt (by omega) hfit
  refine ⟨_,_,some w.heap.size,hrun,⟨⟨rfl,rfl,rfl⟩,by simp,fun c hc _=>heap_alloc_old w.drew _ c hc,fun c hc=>by cases hc;exact ⟨.inl rfl,by simp⟩,.inr ⟨w.heap.size,_,_,e,rfl,rfl,heap_alloc_new w.drew _,?_,grownCap_ge w _ _ _,fun h0=>by omega,?_,?_⟩⟩⟩
  ·have hge:=grownCap_ge w (n+m) sCap e
   simp only [Array.size_append,List.size_toArray,List.length_append,flatC_length,size_zeroCells,hzs,← Nat.add_mul]
   congr 1
   omega
  ·intro ii j hii hj
   have hlt2:=mul_lt hii hj
   rw [Array.getElem?_append_left (by simp only [List.size_toArray,List.length_append,flatC_length];omega),List.getElem?_toArray,List.getElem?_append_left (by rw [flatC_length];exact hlt2)]
   exact flatC_get hii hj
  ·intro ii j hii hj
   have hlt2:=mul_lt hii hj
   have e1:(n+ii) * i.size+j=n * i.size+(ii * i.size+j):=by rw [Nat.add_mul];omega
   rw [Array.getElem?_append_left (by simp only [List.size_toArray,List.length_append,flatC_length];omega),List.getElem?_toArray,List.getElem?_append_right (by rw [flatC_length];omega),flatC_length,
    show (n+ii) * i.size+j - n * i.size=ii * i.size+j by omega]
   exact flatC_get hii hj
 rcases hr with ⟨rfl,rfl,rfl⟩ | ⟨b,cap,arr,elem,rfl,rfl,hb,hsize,hnc,hn0,hcells⟩
 ·by_cases hm:m=0
  ·subst hm
   refine ⟨.slice none 0 0,w,none,?_,⟨⟨rfl,rfl,rfl⟩,Nat.le_refl _,fun _ _ _=>rfl,(fun c hc=>by cases hc),.inl ⟨rfl,rfl,rfl,rfl⟩⟩⟩
   rcases hsrc.kind with ⟨e',hk⟩ | hk <;> simp [Builtin.append_,run_underlying ht,run_underlying hk,sizeOf,typeInfo,hi,hsrc.len,hsrc.cells]
  ·refine grown none 0 ?_ (by omega)
   have:=run_firstCells_none (P:=P) w.drew i.size 0 0 0
   simpa [flatC] using this
 ·by_cases hroom:n+m≤cap
  ·have hfitc:n * i.size+(flatC cv' i.size m).length≤arr.size:=by rw [flatC_length,hsize,← Nat.add_mul];exact Nat.mul_le_mul_right _ hroom
   have hrun:=run_append_room_src (P:=P) w t tx ty e i ht hi b 0 n cap vb m _ hsrc hroom (fun j hj=>by
    rw [cell_row hb];simp only [Nat.zero_add];rw [Array.getElem?_eq_getElem (by omega)];rfl) (fun j hj=>by simp [World.frozen?,hb])
   obtain ⟨g1,g2,g3,g4⟩:=setCells_heap b elem (flatC cv' i.size m) (0+n * i.size) w arr hb
   have hltb:b < w.heap.size:=lt_of_heap hb
   refine ⟨_,_,some b,hrun,⟨g4,by rw [g3];exact Nat.le_refl _,fun c _ hc=>g2 c fun e=>hc (by rw [e]),fun c hc=>by cases hc;exact ⟨.inr rfl,by rw [g3];exact hltb⟩,.inr ⟨b,cap,_,elem,rfl,rfl,g1,?_,hroom,fun h0=>hn0 (by omega),?_,?_⟩⟩⟩
   ·rw [setsAt_size];exact hsize
   ·intro ii j hii hj
    have hlt2:=mul_lt hii hj
    rw [setsAt_get _ _ _ _ (by simpa using hfitc),if_neg (by omega)]
    exact hcells ii j hii hj
   ·intro ii j hii hj
    have hlt2:=mul_lt hii hj
    have e1:(n+ii) * i.size+j=n * i.size+(ii * i.size+j):=by rw [Nat.add_mul];omega
    rw [setsAt_get _ _ _ _ (by simpa using hfitc),if_pos ⟨by omega,by rw [flatC_length];omega⟩,show (n+ii) * i.size+j - (0+n * i.size)=ii * i.size+j by omega]
    exact flatC_get hii hj
  ·refine grown (some ⟨b,0,none⟩) cap ?_ (by omega)
   have:=run_firstCells_some (P:=P) w.drew i.size n ⟨b,0,none⟩ n cap (flatC cv i.size n) (flatC_length _ _ _) (fun j u hu=>by
    rw [Addr.add_lit]
    simp only [Nat.zero_add,World.cell?_drew]
    rw [cell_row hb]
    exact flat_prefix hsz hcells hu)
   exact this
end
section
variable {M:Nat→Prop} {B:Base} {d:Nat} {up:Nat→Nat→Value} {ρ:List T} {G:Gh} {a:Act} {w:World} {S:Nat→Sem1} {P:Program}
def Over (kA kx:Wk) (W:St):Prop:=kA.r=kx.r∧∀ r,kA.w.look r=(W.look r).or (kx.w.look r)
theorem appA_side {k kA:Wk} {G1:Gh} {X:SV} {va:Value} {la:Lf} {dpA dpr:Bool} (hk:WOk M B d up ρ G a w k G1) (hr:RelSV G1 w ρ X va) (hm:∀ i∈idsSV X,M i) (h:appA k X=some (kA,la,dpA))
  (hdp:dpr=true→dpA=true):kA.ct=k.ct∧kA.is=k.is∧∃ kx G2 WA xs,WOk M B d up ρ G a w kx G2∧kx.ct=k.ct∧Over kA kx WA∧la.evo ρ=some (.l xs) ∧
   ((va=.slice none 0 0∧xs=[]∧WA=[])∨∃ idA,WA=[(.o idA,.un)]∧M idA∧idA % 4≠2∧va=G2.H idA []∧Own G2 w idA dpr [] (.l xs)):=by
 unfold appA at h
 split at h
 ·simp only [Option.some.injEq,Prod.mk.injEq] at h
  obtain ⟨rfl,rfl,rfl⟩:=h
  obtain ⟨e,he,hce,_⟩:=hr
  cases he
  exact ⟨rfl,rfl,k,G1,[],[],hk,rfl,⟨rfl,fun r=>by simp [St.look]⟩,rfl,.inl ⟨hce,rfl,rfl⟩⟩
 ·rename_i id
  split at h
  ·rename_i dp x hx
   cases hq2:Nat.beq (id % 4) 2 with
   | true=>simp [hq2] at h
   | false =>
   have hid2:id % 4≠2:=fun e=>by rw [e] at hq2;cases hq2
   simp only [hq2,cond_false,Option.some.injEq,Prod.mk.injEq] at h
   obtain ⟨rfl,rfl,rfl⟩:=h
   obtain ⟨e,he,hce,_⟩:=hr
   cases he
   obtain ⟨p,hp,hva⟩:=hce
   simp only [pthI_nil,Option.some.injEq] at hp
   subst hp
   have hM:M id:=hm id (by simp [idsSV,idsCs])
   refine ⟨rfl,rfl,?_⟩
   by_cases hd:dpr=dp
   ·subst hd
    have hob:=hk.obj id
    rw [hx] at hob
    obtain ⟨t,ht,hown⟩:=hob
    obtain ⟨xs,rfl⟩:∃ ys,t=.l ys:=by cases hown <;> exact ⟨_,rfl⟩
    exact ⟨k,G1,[(.o id,.un)],xs,hk,rfl,⟨rfl,fun r=>set_W r⟩,ht,.inr ⟨id,rfl,hM,hid2,hva,hown⟩⟩
   ·have e1:dpr=false:=by cases dpr <;> cases dp <;> simp_all
    subst e1
    have hfl:k.flat id=some (k.set (.o id) (.ob false x)):=by unfold Wk.flat;rw [hx]
    obtain ⟨G2,w2,f1,f2,f3,f4,f5⟩:=hk.flat hfl
    have hob:=w2.obj id
    rw [Wk.get_set_self] at hob
    obtain ⟨t,ht,hown⟩:=hob
    obtain ⟨xs,rfl⟩:∃ ys,t=.l ys:=by cases hown <;> exact ⟨_,rfl⟩
    refine ⟨_,G2,[(.o id,.un)],xs,w2,f4,⟨rfl,fun r=>?_⟩,ht,.inr ⟨id,rfl,hM,hid2,by rw [f2];exact hva,hown⟩⟩
    rw [show (k.set (.o id) .un).w.look r=_ from set_W r,look_one]
    by_cases hrr:Res.o id=r
    ·subst hrr;simp
    ·simp only [hrr,if_false,Option.none_or]
     exact (St.look_set_ne _ _ hrr).symm
  ·cases h
 ·cases h
def BRows (G:Gh) (w:World) (dpr:Bool) (idB:Option Nat) (ys:List (List T)) (cv:Nat→Nat→Value):Prop :=
 (dpr=false∧∀ i j t,at2 ys i j=some t→Den G.q w t (cv i j)) ∨
 ((∀ i j t,at2 ys i j=some t→scal t=true∧Den (er G.ω) w t (cv i j))) ∨
 (∃ id,dpr=true∧idB=some id∧(∀ i j zs,at2 ys i j=some (.l zs)→Own G w id true [(i,j)] (.l zs))∧(∀ i j v,at2 ys i j=some (.c v)→cv i j=v∧scV v=true)∧∀ i j zs,at2 ys i j=some (.l zs)→cv i j=G.H id [(i,j)])
theorem Over.get {kA kx:Wk} {W:St} (h:Over kA kx W) {r:Res} (hr:W.look r=none):kA.get r=kx.get r:=by
 unfold Wk.get
 rw [h.2,hr,h.1]
 simp
theorem Own.rows {G1:Gh} {id:Nat} {ys:List (List T)} (h:Own G1 w id true [] (.l ys)):∀ i j zs,at2 ys i j=some (.l zs)→Own G1 w id true [(i,j)] (.l zs):=by
 intro i j zs hat
 have:=Own.dig [(i,j)] h (by simp [digp,hat]) ⟨zs,rfl⟩
 simpa using this
theorem own_src {G1:Gh} {id:Nat} {dp:Bool} {ys:List (List T)} {v:Value} (h:Own G1 w id dp [] (.l ys)) (hv:v=G1.H id []) {sz:Nat} (hsz:0 < sz) (hok:okW sz ys=true) {tx e':TypeId} (ht:P.underlying tx=some (.slice e')) :
  ∃ cv:Nat→Nat→Value,Src P sz tx v ys.length (flatC cv sz ys.length) w∧(∀ r∈ys,r.length=sz)∧(∀ i j v,at2 ys i j=some (.c v)→cv i j=v∧scV v=true) ∧
   (dp=true→∀ i j zs,at2 ys i j=some (.l zs)→cv i j=G1.H id [(i,j)])∧(dp=false→∀ i j t,at2 ys i j=some t→Den G1.q w t (cv i j)):=by
 have hden:=h.den
 rw [← hv] at hden
 obtain ⟨cv,h1,h2,h3,h4⟩:=den_src (P:=P) hden hsz hok ht
 refine ⟨cv,h1,h2,fun i j u hat=>?_,fun hd i j zs hat=>?_,fun hd i j t hat=>?_⟩
 ·exact (h3 i j _ hat).scalar
 ·cases h with
  | nil=>simp [at2] at hat
  | @l _ _ _ b wd cap arr elem cv' g1 g2 g3 g4 g5 g6 g7 g8 g9 g10 g11 =>
   have hc:=h4 b 0 _ _ (by rw [hv];exact g1) i j _ hat
   have hwd:wd=sz:=by
    obtain ⟨r,_,hm,_⟩:=at2_row hat
    rw [← g6 r hm,h2 r hm]
   subst hwd
   rw [cell_row g4,Nat.zero_add,g7 i j _ hat] at hc
   rw [← Option.some.inj hc]
   simpa using g10 i j zs hat hd
 ·cases h with
  | nil=>simp [at2] at hat
  | @l _ _ _ b wd cap arr elem cv' g1 g2 g3 g4 g5 g6 g7 g8 g9 g10 g11 =>
   have hc:=h4 b 0 _ _ (by rw [hv];exact g1) i j _ hat
   have hwd:wd=sz:=by
    obtain ⟨r,_,hm,_⟩:=at2_row hat
    rw [← g6 r hm,h2 r hm]
   subst hwd
   rw [cell_row g4,Nat.zero_add,g7 i j _ hat] at hc
   rw [← Option.some.inj hc]
   cases t with
   | c u=>obtain ⟨e1,e2⟩:=g8 i j u hat;rw [e1];exact .c e2
   | l zs=>exact g9 i j zs hat hd
theorem Over.same {kA kx kB:Wk} {W:St} (h:Over kA kx W) (hs:kA.Same kB):Over kB kx W:=⟨hs.r.trans h.1,fun r=>by rw [hs.w];exact h.2 r⟩
theorem appB_pre {kA kB:Wk} {Y:SV} {lb:Lf} {sl fz dpB:Bool} (h:appB sl fz kA Y=some (kB,lb,dpB)) (hd:kB.Done S ρ):kA.Done S ρ:=by
 unfold appB at h
 split at h
 ·simp only [Option.some.injEq,Prod.mk.injEq] at h;rw [h.1];exact hd
 ·simp only [Option.some.injEq,Prod.mk.injEq] at h;rw [h.1];exact hd
 ·cases hsl:sl with
  | false =>
   simp only [hsl,cond_false,Option.bind_eq_some_iff,Option.some.injEq,Prod.mk.injEq] at h
   obtain ⟨⟨k2,x2⟩,hv,rfl,_⟩:=h
   exact Wk.val_pre hv hd
  | true =>
   simp only [hsl,cond_true] at h
   split at h
   ·rename_i dp x hx
    cases hc:(dp && !fz) with
    | true=>simp only [hc,cond_true,Option.some.injEq,Prod.mk.injEq] at h;rw [← h.1] at hd;exact hd
    | false=>simp only [hc,cond_false,Option.some.injEq,Prod.mk.injEq] at h;rw [← h.1] at hd;exact hd
   ·simp only [Option.some.injEq,Prod.mk.injEq] at h;rw [h.1];exact hd
   ·cases hfz:fz with
    | true=>simp [hfz] at h
    | false=>simp only [hfz,cond_false,Option.some.injEq,Prod.mk.injEq] at h;rw [← h.1] at hd;exact hd
   ·cases h
 ·cases h
theorem appB_side {kA kB kx:Wk} {G1:Gh} {WA:St} {Y:SV} {vb:Value} {lb:Lf} {sl fz dpB dpr:Bool} (hk:WOk M B d up ρ G a w kx G1) (ho:Over kA kx WA) (hWA:∀ r u,WA.look r=some u→u=.un)
  (hr:RelSV G1 w ρ Y vb) (hm:∀ i∈idsSV Y,M i) (h:appB sl fz kA Y=some (kB,lb,dpB)) (hd:kB.Done S ρ) (hdp:dpr=true→dpB=true) :
  kA.Done S ρ∧kB.ct.i=kA.ct.i∧∃ ky G3 WB t idB,WOk M B d up ρ G a w ky G3∧Over kB ky (WB++WA)∧((WB=[]∧idB=none)∨∃ i,idB=some i∧WB=[(.o i,.un)]∧WA.look (.o i)=none∧M i) ∧
   lb.evo ρ=some t∧G3.H=G1.H∧Keep (fun l=>∃ i p,l=.o i p∧WA.look (.o i)=none) (fun _=>False) G1 w G3 w∧(∀ i p,∀ b,G3.ω b=some (.o i p)→G1.ω b=some (.o i p)) ∧
   ∀ ys sz tx e',t=.l ys→0 < sz→okW sz ys=true→(sl=false→ys.all (·.all scal)=true)→P.underlying tx=some (.slice e') →
    ∃ cv,Src P sz tx vb ys.length (flatC cv sz ys.length) w∧(∀ r∈ys,r.length=sz)∧BRows G3 w dpr idB ys cv:=by
 have stay:Keep (fun l=>∃ i p,l=.o i p∧WA.look (.o i)=none) (fun _=>False) G1 w G1 w:=(Keep.refl G1 w).mono (fun _ hf=>hf.elim) fun _ hf=>hf
 have scal_all:∀ ys:List (List T),ys.all (·.all scal)=true→∀ i j t,at2 ys i j=some t→scal t=true:=by
  intro ys hs i j t hat
  obtain ⟨r,_,hmem,hrj,_⟩:=at2_row hat
  exact List.all_eq_true.1 (List.all_eq_true.1 hs r hmem) t (List.mem_of_getElem? hrj)
 unfold appB at h
 split at h
 ·
  simp only [Option.some.injEq,Prod.mk.injEq] at h
  obtain ⟨rfl,rfl,rfl⟩:=h
  obtain ⟨e,he,hce,_⟩:=hr
  cases he
  refine ⟨hd,rfl,kx,G1,[],.l [],none,hk,ho,.inl ⟨rfl,rfl⟩,rfl,rfl,stay,fun _ _ _ h=>h,fun ys sz tx e' ht hsz hok _ htx=>?_⟩
  cases ht
  rw [show vb=_ from hce]
  obtain ⟨cv,h1,h2,_,_⟩:=den_src (P:=P) (.nil:Den G1.q w (.l []) (.slice none 0 0)) hsz hok htx
  exact ⟨cv,h1,h2,.inr (.inl fun i j t hat=>by simp [at2] at hat)⟩
 ·
  simp only [Option.some.injEq,Prod.mk.injEq] at h
  obtain ⟨rfl,rfl,rfl⟩:=h
  obtain ⟨e,he,hce,_⟩:=hr
  cases he
  obtain ⟨t,ht,hden⟩:=hce
  refine ⟨hd,rfl,kx,G1,[],t,none,hk,ho,.inl ⟨rfl,rfl⟩,ht,rfl,stay,fun _ _ _ h=>h,fun ys sz tx e' ht hsz hok hsc htx=>?_⟩
  subst ht
  obtain ⟨cv,h1,h2,h3,_⟩:=den_src (P:=P) hden hsz hok htx
  refine ⟨cv,h1,h2,?_⟩
  cases hb:dpr with
  | false=>exact .inl ⟨rfl,h3⟩
  | true =>
   have:=hdp hb
   have hsl:sl=false:=by simpa using this
   exact .inr (.inl fun i j t hat=>⟨scal_all ys (hsc hsl) i j t hat,(h3 i j t hat).er⟩)
 ·
  rename_i id q
  obtain ⟨e,he,hce,_⟩:=hr
  cases he
  have hMi:M id:=hm id (by simp [idsSV,idsCs])
  cases hsl:sl with
  | false =>
   simp only [hsl,cond_false,Option.bind_eq_some_iff,Option.some.injEq,Prod.mk.injEq] at h
   obtain ⟨⟨k2,x2⟩,hv,rfl,rfl,rfl⟩:=h
   have hnone:WA.look (.o id)=none:=by
    cases hl:WA.look (.o id) with
    | none=>rfl
    | some u =>
     exfalso
     have hu:=hWA _ _ hl
     subst hu
     have:kA.get (.o id)=.un:=by unfold Wk.get;rw [ho.2,hl];simp
     simp [Wk.val,this] at hv
   obtain ⟨t,ht,hden⟩:=Wk.val_done hv hd hce fun i hi=>by
    simp [idsCs] at hi
    subst hi
    rw [ho.get hnone]
    exact hk.obj i
   refine ⟨Wk.val_pre hv hd,(Wk.val_same hv).i,kx,G1,[],t,none,hk,ho.same (Wk.val_same hv),.inl ⟨rfl,rfl⟩,ht,rfl,stay,fun _ _ _ h=>h,fun ys sz tx e' ht hsz hok hsc htx=>?_⟩
   subst ht
   obtain ⟨cv,h1,h2,h3,_⟩:=den_src (P:=P) hden hsz hok htx
   exact ⟨cv,h1,h2,.inr (.inl fun i j t hat=>⟨scal_all ys (hsc rfl) i j t hat,h3 i j t hat⟩)⟩
  | true =>
   simp only [hsl,cond_true] at h
   have hnone:kA.get (.o id)≠.un→WA.look (.o id)=none:=by
    intro hne
    cases hl:WA.look (.o id) with
    | none=>rfl
    | some u =>
     exfalso
     have hu:=hWA _ _ hl
     subst hu
     exact hne (by unfold Wk.get;rw [ho.2,hl];simp)
   obtain ⟨p,hp,hvb⟩:=hce
   split at h
   ·rename_i dp x hx
    have hn:=hnone (by rw [hx];simp)
    simp only [pthI_nil,Option.some.injEq] at hp
    subst hp
    have hx2:kx.get (.o id)=.ob dp x:=by rw [← ho.get hn];exact hx
    have flatCase:dpr=false→∃ ky G3,ky=kx.set (.o id) (.ob false x)∧WOk M B d up ρ G a w ky G3∧G3.H=G1.H∧Keep (fun l=>∃ i p,l=.o i p∧WA.look (.o i)=none) (fun _=>False) G1 w G3 w∧(∀ i p,∀ b,G3.ω b=some (.o i p)→G1.ω b=some (.o i p)) ∧
      ∃ t,x.evo ρ=some t∧∀ ys sz tx e',t=.l ys→0 < sz→okW sz ys=true→P.underlying tx=some (.slice e')→∃ cv,Src P sz tx vb ys.length (flatC cv sz ys.length) w∧(∀ r∈ys,r.length=sz)∧∀ idB,BRows G3 w dpr idB ys cv:=by
     intro hdpr
     have hG:WOk M B d up ρ G a w (kx.set (.o id) (.ob false x)) (G1.free id false):=by
      have hx3:=hx2
      rw [Wk.get_sets] at hx3
      refine ⟨(hk.rel.flat hx3).congr (sets_set_get _ _ _ _),(hk.keep.mono (fun l hl=>keysOf_set hl) fun _ hn=>hn).trans ((G1.free_keep id false w).mono ?_ fun _ hn=>hn)⟩
      rintro l ⟨p,rfl⟩
      show (kx.w.set _ _).look (.o id)≠none
      rw [St.look_set_self];simp
     refine ⟨_,G1.free id false,rfl,hG,rfl,(G1.free_keep id false w).mono (fun l ⟨p,hp⟩=>⟨id,p,hp,hn⟩) (fun _ hf=>hf),fun i p b hb=>?_,?_⟩
     ·simp only [Gh.free] at hb
      split at hb
      ·split at hb
       ·cases hb
       ·rename_i hw _;rw [hw];exact hb
      ·exact hb
     ·have hob:=hG.obj id
      rw [Wk.get_set_self] at hob
      obtain ⟨t,ht,hown⟩:=hob
      refine ⟨t,ht,fun ys sz tx e' htl hsz hok htx=>?_⟩
      subst htl
      obtain ⟨cv,h1,h2,_,_,h5⟩:=own_src (P:=P) hown hvb hsz hok htx
      exact ⟨cv,h1,h2,fun _=>.inl ⟨hdpr,h5 rfl⟩⟩
    cases hc:(dp && !fz) with
    | true =>
     simp only [hc,cond_true,Option.some.injEq,Prod.mk.injEq] at h
     obtain ⟨rfl,rfl,rfl⟩:=h
     simp only [Bool.and_eq_true] at hc
     cases hdb:dpr with
     | false =>
      obtain ⟨ky,G3,rfl,w3,e3,kp,e4,t,ht,hsrc⟩:=flatCase hdb
      refine ⟨hd,rfl,_,G3,[(.o id,.un)],t,some id,w3,⟨ho.1,fun r=>?_⟩,.inr ⟨id,rfl,rfl,hn,hMi⟩,ht,e3,kp,e4,fun ys sz tx e' htl hsz hok _ htx=>?_⟩
      ·rw [show (kA.set (.o id) .un).w.look r=_ from set_W r,look_append,look_one,ho.2]
       by_cases hrr:Res.o id=r
       ·subst hrr;simp
       ·simp only [hrr,if_false,Option.none_or]
        rw [show (kx.set (.o id) (.ob false x)).w.look r=_ from St.look_set_ne _ _ hrr]
      ·obtain ⟨cv,h1,h2,h3⟩:=hsrc ys sz tx e' htl hsz hok htx
       rw [← hdb]
       exact ⟨cv,h1,h2,h3 _⟩
     | true =>
      have hob:=hk.obj id
      rw [hx2,hc.1] at hob
      obtain ⟨t,ht,hown⟩:=hob
      refine ⟨hd,rfl,kx,G1,[(.o id,.un)],t,some id,hk,⟨ho.1,fun r=>?_⟩,.inr ⟨id,rfl,rfl,hn,hMi⟩,ht,rfl,stay,fun _ _ _ h=>h,fun ys sz tx e' htl hsz hok _ htx=>?_⟩
      ·rw [show (kA.set (.o id) .un).w.look r=_ from set_W r,look_append,ho.2,Option.or_assoc]
      ·subst htl
       obtain ⟨cv,h1,h2,h3,h4,_⟩:=own_src (P:=P) hown hvb hsz hok htx
       exact ⟨cv,h1,h2,.inr (.inr ⟨id,rfl,rfl,hown.rows,h3,h4 rfl⟩)⟩
    | false =>
     simp only [hc,cond_false,Option.some.injEq,Prod.mk.injEq] at h
     obtain ⟨rfl,rfl,rfl⟩:=h
     have hdb:dpr=false:=by cases dpr with | false=>rfl | true=>exact absurd (hdp rfl) (by simp)
     obtain ⟨ky,G3,rfl,w3,e3,kp,e4,t,ht,hsrc⟩:=flatCase hdb
     refine ⟨hd,rfl,_,G3,[],t,none,w3,⟨ho.1,fun r=>?_⟩,.inl ⟨rfl,rfl⟩,ht,e3,kp,e4,fun ys sz tx e' htl hsz hok _ htx=>?_⟩
     ·by_cases hrr:Res.o id=r
      ·subst hrr
       rw [show (kA.set (.o id) (.ob false x)).w.look (.o id)=_ from St.look_set_self _ _ _,List.nil_append,hn]
       simp only [Option.none_or]
       exact (St.look_set_self _ _ _).symm
      ·rw [show (kA.set (.o id) (.ob false x)).w.look r=_ from St.look_set_ne _ _ hrr,ho.2,List.nil_append,show (kx.set (.o id) (.ob false x)).w.look r=_ from St.look_set_ne _ _ hrr]
     ·obtain ⟨cv,h1,h2,h3⟩:=hsrc ys sz tx e' htl hsz hok htx
      exact ⟨cv,h1,h2,h3 _⟩
   ·rename_i x hx
    have hn:=hnone (by rw [hx];simp)
    simp only [pthI_nil,Option.some.injEq] at hp
    subst hp
    simp only [Option.some.injEq,Prod.mk.injEq] at h
    obtain ⟨rfl,rfl,rfl⟩:=h
    have hdb:dpr=false:=by cases dpr with | false=>rfl | true=>exact absurd (hdp rfl) (by simp)
    have hob:=hk.obj id
    rw [← ho.get hn,hx] at hob
    obtain ⟨t,ht,hden,_⟩:=hob
    refine ⟨hd,rfl,kx,G1,[],t,none,hk,ho,.inl ⟨rfl,rfl⟩,ht,rfl,stay,fun _ _ _ h=>h,fun ys sz tx e' htl hsz hok _ htx=>?_⟩
    subst htl
    rw [← hvb] at hden
    obtain ⟨cv,h1,h2,h3,_⟩:=den_src (P:=P) hden hsz hok htx
    exact ⟨cv,h1,h2,.inl ⟨hdb,h3⟩⟩
   ·rename_i x hx
    have hn:=hnone (by rw [hx];simp)
    simp only [pthI_nil,Option.some.injEq] at hp
    subst hp
    cases hfz:fz with
    | true=>simp [hfz] at h
    | false =>
     simp only [hfz,cond_false,Option.some.injEq,Prod.mk.injEq] at h
     obtain ⟨rfl,rfl,rfl⟩:=h
     have hob:=hk.obj id
     rw [← ho.get hn,hx] at hob
     obtain ⟨h40,ys,ht,hden,hhdr,hown⟩:=hob
     refine ⟨hd,rfl,kx,G1,[(.o id,.un)],_,some id,hk,⟨ho.1,fun r=>?_⟩,.inr ⟨id,rfl,rfl,hn,hMi⟩,ht,rfl,stay,fun _ _ _ h=>h,fun ys' sz tx e' htl hsz hok _ htx=>?_⟩
     ·rw [show (kA.set (.o id) .un).w.look r=_ from set_W r,look_append,ho.2,Option.or_assoc]
     ·cases htl
      have hden2:=hden
      rw [← hvb] at hden2
      obtain ⟨cv,h1,h2,h3,h4⟩:=den_src (P:=P) hden2 hsz hok htx
      refine ⟨cv,h1,h2,?_⟩
      cases hb:dpr with
      | false=>exact .inl ⟨rfl,h3⟩
      | true =>
       refine .inr (.inr ⟨id,rfl,rfl,hown,fun i j v hat=>(h3 i j _ hat).scalar,fun i j zs hat=>?_⟩)
       obtain ⟨ad,cap,hv2,_⟩:=hden2.rows
       cases ad with
       | none =>
        rw [hv2] at hden2
        generalize hvv:Value.slice none ys.length cap=vv at hden2
        cases hden2 with
        | nil=>simp [at2] at hat
        | l=>cases hvv
       | some ad =>
        obtain ⟨b,off,r0⟩:=ad
        rw [hv2] at hden2
        generalize hvv:Value.slice (some ⟨b,off,r0⟩) ys.length cap=vv at hden2
        cases hden2 with
        | nil=>simp [at2] at hat
        | @l _ b2 off2 wd cap2 cv2 g1 g2 g3 g4 g5 g6 =>
         cases hvv
         obtain ⟨wd2,w1,w2⟩:=hhdr b off _ _ (by rw [← hvb];exact hv2)
         have e1:=h4 b off _ _ hv2 i j _ hat
         have e2:=w2 i j zs hat
         obtain ⟨row,_,hmem,_⟩:=at2_row hat
         rw [← w1 row hmem,h2 row hmem,e1] at e2
         simpa using e2
   ·cases h
 ·cases h
theorem app_ev {sc:Bool} {sz:Nat} {xs:List (List T)} {t r:T} (h:Prim.ev (.app sc sz) [.l xs,t]=some r) :
  ∃ ys,t=.l ys∧xs.length+ys.length < cap32∧(sc=true→ys.all (·.all scal)=true)∧okW sz xs=true∧okW sz ys=true∧r=.l (xs++ys):=by
 cases t with
 | c v=>simp [Prim.ev] at h
 | l ys =>
  simp only [Prim.ev] at h
  split at h
  ·rename_i h1
   split at h
   ·rename_i h2
    split at h
    ·rename_i h3
     split at h
     ·rename_i h4
      simp only [Option.some.injEq] at h
      exact ⟨ys,rfl,h1,fun hs=>by subst hs;simpa using h2,h3,h4,h.symm⟩
     ·cases h
    ·cases h
   ·cases h
  ·cases h
theorem own_room {G1:Gh} {id:Nat} {dp:Bool} {xs:List (List T)} {v:Value} (h:Own G1 w id dp [] (.l xs)) (hv:v=G1.H id []) {sz:Nat} (hok:okW sz xs=true) :
  ∃ (cv:Nat→Nat→Value) (b0:Option Nat),Room w sz v xs.length b0 cv∧(∀ b,b0=some b→G1.ω b=some (.o id []))∧Cont G1 w id dp sz 0 xs cv:=by
 cases h with
 | nil hH =>
  refine ⟨fun _ _=>undef,none,.inl ⟨by rw [hv,hH],rfl,rfl⟩,fun b hb=>(by cases hb),⟨fun r hr=>(by cases hr),?_,?_,?_,?_⟩⟩ <;> intro i j t hat <;> simp [at2] at hat
 | @l _ _ _ b wd cap arr elem cv g1 g2 g3 g4 g5 g6 g7 g8 g9 g10 g11 =>
  by_cases hx:xs=[]
  ·subst hx
   have hcap:=g2.2 rfl
   subst hcap
   refine ⟨cv,some b,.inr ⟨b,0,arr,elem,by rw [hv,g1],rfl,g4,by rw [g5];simp,Nat.le_refl _,fun _=>rfl,fun i j hi _=>by simp at hi⟩,fun c hc=>by cases hc;exact g3,⟨fun r hr=>(by cases hr),?_,?_,?_,?_⟩⟩ <;> intro i j t hat <;> simp [at2] at hat
  ·have hwd:wd=sz:=by
    cases xs with
    | nil=>exact absurd rfl hx
    | cons r xs=>rw [← g6 r (by simp)];exact Nat.eq_of_beq_eq_true hok
   subst hwd
   refine ⟨cv,some b,.inr ⟨b,cap,arr,elem,by rw [hv,g1],rfl,g4,g5,g2.1,fun h0=>g2.2 (List.eq_nil_of_length_eq_zero h0),fun i j hi hj=>?_⟩,fun c hc=>by cases hc;exact g3,⟨g6,g8,g9,?_,?_⟩⟩
   ·obtain ⟨t,hat⟩:=at2_some g6 hi hj
    exact g7 i j t hat
   ·intro i j ys hat hd
    simpa using g10 i j ys hat hd
   ·intro i j ys hat hd
    simpa using g11 i j ys hat hd
end
def moveL (ja jb:Option Nat) (i n:Nat):Lb→Option Lb
 | .f=>some .f
 | .x b=>some (.x b)
 | .o j p =>
  if ja=some j then (match p with | []=>some (.o j []) | x :: p=>some (.o i (x :: p)))
  else if jb=some j then (match p with | []=>some (.o j []) | (r,c) :: p=>some (.o i ((n+r,c) :: p)))
  else some (.o j p)
theorem evN_even (i:Nat):evN i % 2=0:=by unfold evN;omega
theorem moveL_qt {ja jb:Option Nat} {i n:Nat} (hi:i % 2=0) (l l':Lb) (hq:qt l=true) (h:moveL ja jb i n l=some l'):qt l'=true:=by
 cases l with
 | o j p =>
  cases p with
  | nil =>
   simp only [moveL] at h
   split at h
   ·cases h;exact hq
   ·split at h
    ·cases h;exact hq
    ·cases h;exact hq
  | cons x p =>
   obtain ⟨r,c⟩:=x
   simp only [moveL] at h
   split at h
   ·cases h;exact qt_o hi (by simp)
   ·split at h
    ·cases h;exact qt_o hi (by simp)
    ·cases h;exact hq
 | _=>simp [qt] at hq
def moveH (G:Gh) (ja jb:Option Nat) (n:Nat) (v:Value):List (Nat × Nat)→Value
 | []=>v
 | (r,c) :: p=>if r < n then (match ja with | some j=>G.H j ((r,c) :: p) | none=>.slice none 0 0) else (match jb with | some j=>G.H j ((r - n,c) :: p) | none=>.slice none 0 0)
theorem moveH_slice {G:Gh} {ja jb:Option Nat} {n:Nat} {v:Value} (hv:∃ a m c,v=.slice a m c) (p:List (Nat × Nat)):∃ a m c,moveH G ja jb n v p=.slice a m c:=by
 cases p with
 | nil=>exact hv
 | cons x p =>
  obtain ⟨r,k⟩:=x
  by_cases hr:r < n
  ·simp only [moveH,if_pos hr]
   cases ja with
   | none=>exact ⟨_,_,_,rfl⟩
   | some j=>exact G.hs j _
  ·simp only [moveH,if_neg hr]
   cases jb with
   | none=>exact ⟨_,_,_,rfl⟩
   | some j=>exact G.hs j _
section
variable {M:Nat→Prop} {B:Base} {d:Nat} {up:Nat→Nat→Value} {ρ:List T} {G:Gh} {a:Act} {w:World} {S:Nat→Sem1} {P:Program}
variable {cx:Cx} {fid rid oi:Nat} {s:St} {R:List Res} {ct:Ct} {k':Wk} {o:Oper} {Q:Exit→Act→World→Prop}
theorem cont_a {G3:Gh} {w':World} {idA i n:Nat} {dpr:Bool} {sz:Nat} {xs:List (List T)} {cv:Nat→Nat→Value} (h:Cont G3 w idA dpr sz 0 xs cv) (hn:xs.length≤n)
  {nb:Option Nat} {jb:Option Nat} {v:Value} {hHn:∀ p,∃ a m c,moveH G3 (some idA) jb n v p=.slice a m c} (hnb:∀ c,nb=some c→c=w.heap.size∨G3.ω c=some (.o idA [])) (hA2:idA % 4≠2)
  (hi:i % 2=0) (hlab:∀ b l,G3.ω b=some l→b < w.heap.size) (hsz:w.heap.size≤w'.heap.size) (hh:∀ c,c < w.heap.size→nb≠some c→w'.heap[c]?=w.heap[c]?) :
  Cont (G3.mk2 nb i (moveL (some idA) jb i n) (moveH G3 (some idA) jb n v) hHn) w' i dpr sz 0 xs cv:=by
 have hfree:∀ b,b < w.heap.size→G3.q b=none→(G3.mk2 nb i (moveL (some idA) jb i n) (moveH G3 (some idA) jb n v) hHn).q b=none∧w'.heap[b]?=w.heap[b]?:=by
  intro b hb h0
  have hne:nb≠some b:=by
   intro e
   rcases hnb b e with rfl | h1
   ·omega
   ·exact qf_lab h1 (qt_top hA2) h0
  exact ⟨mk2_q (moveL_qt hi) hne h0,hh b hb hne⟩
 refine ⟨h.wd,h.sc,fun r c ys hat hd=>(h.pl r c ys hat hd).keep hsz hfree,fun r c ys hat hd=>?_,fun r c ys hat hd=>?_⟩
 ·have hlt:r < n:=by obtain ⟨_,_,_,_,q1,_⟩:=at2_row hat;omega
  have:=h.hd r c ys hat hd
  simp only [Nat.zero_add] at this ⊢
  rw [this]
  simp [Gh.mk2,moveH,hlt]
 ·have hlt:r < n:=by obtain ⟨_,_,_,_,q1,_⟩:=at2_row hat;omega
  have:=h.ow r c ys hat hd
  simp only [Nat.zero_add] at this ⊢
  refine this.move rfl (fun e q he=>?_) fun q=>by simp [Gh.mk2,moveH,hlt]
  have hlt2:=hlab e _ he
  have hne:nb≠some e:=by
   intro e'
   rcases hnb e e' with rfl | h1
   ·omega
   ·rw [he] at h1;simp at h1
  refine ⟨?_,hh e hlt2 hne⟩
  simp only [Gh.mk2,hne,if_false,he,Option.bind_some,moveL,if_true]
  rfl
theorem cont_b {G3:Gh} {w':World} {i n:Nat} {ja:Option Nat} {dpr:Bool} {sz:Nat} {ys:List (List T)} {cv:Nat→Nat→Value} {idB:Option Nat} (h:BRows G3 w dpr idB ys cv) (hdp:∀ id,idB=some id→ja≠some id)
  (hw:∀ r∈ys,r.length=sz) {nb:Option Nat} {v:Value} {hHn:∀ p,∃ a m c,moveH G3 ja idB n v p=.slice a m c}
  (hnb:∀ c,nb=some c→c=w.heap.size∨∃ j,ja=some j∧G3.ω c=some (.o j [])∧j % 4≠2)
  (hi:i % 2=0) (hlab:∀ b l,G3.ω b=some l→b < w.heap.size) (hsz:w.heap.size≤w'.heap.size) (hh:∀ c,c < w.heap.size→nb≠some c→w'.heap[c]?=w.heap[c]?) :
  Cont (G3.mk2 nb i (moveL ja idB i n) (moveH G3 ja idB n v) hHn) w' i dpr sz n ys cv:=by
 have hfree:∀ b,b < w.heap.size→G3.q b=none→(G3.mk2 nb i (moveL ja idB i n) (moveH G3 ja idB n v) hHn).q b=none∧w'.heap[b]?=w.heap[b]?:=by
  intro b hb h0
  have hne:nb≠some b:=by
   intro e
   rcases hnb b e with rfl | ⟨j,_,h1,hj2⟩
   ·omega
   ·exact qf_lab h1 (qt_top hj2) h0
  exact ⟨mk2_q (moveL_qt hi) hne h0,hh b hb hne⟩
 have plain:dpr=false→(∀ i j t,at2 ys i j=some t→Den G3.q w t (cv i j))→Cont (G3.mk2 nb i (moveL ja idB i n) (moveH G3 ja idB n v) hHn) w' i dpr sz n ys cv:=by
  intro hf hden
  exact ⟨hw,fun r c u hat=>(hden r c _ hat).scalar,fun r c zs hat _=>(hden r c _ hat).keep hsz hfree,fun r c zs _ hd=>(by rw [hf] at hd;cases hd),fun r c zs _ hd=>(by rw [hf] at hd;cases hd)⟩
 rcases h with ⟨hf,hden⟩ | hsc | ⟨id,hdt,hid,hown,hs,hl⟩
 ·exact plain hf hden
 ·refine ⟨hw,fun r c u hat=>(hsc r c _ hat).2.scalar,fun r c zs hat _=>?_,fun r c zs hat _=>?_,fun r c zs hat _=>?_⟩ <;> have:=(hsc r c _ hat).1 <;> simp [scal] at this
 ·subst hid
  refine ⟨hw,hs,fun r c zs hat hd=>?_,fun r c zs hat hd=>?_,fun r c zs hat hd=>?_⟩
  ·rw [hdt] at hd;cases hd
  ·rw [hl r c zs hat]
   simp [Gh.mk2,moveH,show ¬ (n+r < n) by omega]
  ··have:=hown r c zs hat
    refine this.move rfl (fun e q he=>?_) fun q=>by simp [Gh.mk2,moveH,show ¬ (n+r < n) by omega]
    have hlt2:=hlab e _ he
    have hne:nb≠some e:=by
     intro e'
     rcases hnb e e' with rfl | ⟨j,hj,h1,_⟩
     ·omega
     ·rw [he] at h1;simp at h1
    have hja:ja≠some id:=hdp id rfl
    refine ⟨?_,hh e hlt2 hne⟩
    simp [Gh.mk2,hne,he,moveL,hja]
theorem moveL_id {ja jb:Option Nat} {i n:Nat} {l l':Lb} (h:moveL ja jb i n l=some l'):l'.id=l.id∨l'.id=i:=by
 cases l with
 | f=>simp only [moveL,Option.some.injEq] at h;subst h;exact .inl rfl
 | x b=>simp only [moveL,Option.some.injEq] at h;subst h;exact .inl rfl
 | o j p =>
  simp only [moveL] at h
  split at h
  ·cases p with
   | nil=>simp only [Option.some.injEq] at h;subst h;exact .inl rfl
   | cons x p=>simp only [Option.some.injEq] at h;subst h;exact .inr rfl
  ·split at h
   ·cases p with
    | nil=>simp only [Option.some.injEq] at h;subst h;exact .inl rfl
    | cons x p=>simp only [Option.some.injEq] at h;subst h;exact .inr rfl
   ·simp only [Option.some.injEq] at h;subst h;exact .inl rfl
theorem append_step {ti tj te:TI} {t tx:Nat} (tys:TyAll P cx) (hti:cx.ty t=some ti) (htj:cx.ty tx=some tj) (hte:cx.ty ti.el=some te) (hk3:ti.kd=3) (hj3:tj.kd=3) (hby:te.bytes≤32768) (hsz:0 < te.sz)
  (h:Rel M B d up s ρ G a w) (hn:∀ n,o.dst=some n→n < a.tmps.size) {c:Call} {x y:Operand} (ho:o.op=.call c) (hc:c.callee=.builtin .append) (hargs:c.args.toList=[x,y]) (hat:c.argTypes.toList=[t,tx])
  {k5 ky kw:Wk} {G3:Gh} {WA WB:St} {idA idB:Option Nat} {xs ys:List (List T)} {dpr:Bool} {r:Lf} (w3:WOk M B d up ρ G a w ky G3) (hover:Over k5 ky (WB++WA)) (hev:k5.ct.i % 2=0) (hM:¬ M k5.ct.i)
  (hWA:(idA=none∧WA=[]∧a.eval x=.slice none 0 0∧xs=[])∨∃ i,idA=some i∧WA=[(.o i,.un)]∧M i∧i % 4≠2∧a.eval x=G3.H i []∧Own G3 w i dpr [] (.l xs))
  (hWB:(WB=[]∧idB=none)∨∃ i,idB=some i∧WB=[(.o i,.un)]∧WA.look (.o i)=none∧M i)
  (hokx:okW te.sz xs=true) (hlt:xs.length+ys.length < cap32) {cv:Nat→Nat→Value} {e':TypeId} (hsrc:Src P te.sz tx (a.eval y) ys.length (flatC cv te.sz ys.length) w) (hwy:∀ r∈ys,r.length=te.sz)
  (hrows:BRows G3 w dpr idB ys cv) (hr:r.evo ρ=some (.l (xs++ys))) (hkw:∀ r',kw.w.look r'=(St.look ((.o k5.ct.i,.ob dpr r) :: (WB++WA)) r').or (ky.w.look r')) :
  Goal P (Mn M k5.ct.i (k5.ct.i+1)) B d up ρ a w s o (putW d o kw (.v false [.o k5.ct.i []])).w Q:=by
 have hT:=tys.ty _ _ hti
 have hE:=tys.ty _ _ hte
 obtain ⟨i,z,hi1,hi2,hi3,hi4,hzo⟩:=hE.info
 have hu:=hT.sl hk3
 have hzs:z.cells.size=te.sz:=by
  have:=(zero_rel (G:=G) (w:=w) (ρ:=ρ) hzo).1.length
  rw [hE.zlen] at this
  simpa using this.symm
 have hlab:∀ b l,G3.ω b=some l→b < w.heap.size:=fun b l hb=>(w3.rel.lab b l hb).2
 obtain ⟨cva,b0,hroom,hb0,hcont⟩:∃ (cva:Nat→Nat→Value) (b0:Option Nat),Room w te.sz (a.eval x) xs.length b0 cva∧(∀ b,b0=some b→∃ j,idA=some j∧G3.ω b=some (.o j [])∧j % 4≠2) ∧
   (xs=[]∨∃ j,idA=some j∧Cont G3 w j dpr te.sz 0 xs cva):=by
  rcases hWA with ⟨rfl,_,hv,rfl⟩ | ⟨j,rfl,_,_,hj2,hv,hown⟩
  ·exact ⟨fun _ _=>undef,none,.inl ⟨hv,rfl,rfl⟩,fun b hb=>(by cases hb),.inl rfl⟩
  ·obtain ⟨cva,b0,h1,h2,h3⟩:=own_room hown hv hokx
   exact ⟨cva,b0,h1,fun b hb=>⟨j,rfl,h2 b hb,hj2⟩,.inr ⟨j,rfl,h3⟩⟩
 obtain ⟨v',w',nb,hrun,happ⟩:=run_append_any (P:=P) (w:=w) (ty:=o.type) hu hi1 hi4 hi2 hzs hsz (by rw [hi3];exact hby) hroom hsrc hlt
 have hexec:(execOp a.eval o).run P w=.ok (.value v') w':=by
  refine run_builtin ho hc ?_
  have hA:c.args=#[x,y]:=Array.ext' hargs
  have hB:c.argTypes=#[t,tx]:=Array.ext' hat
  rw [hA,hB]
  show Sem.run P (do let v ← Builtin.append_ #[t,tx] o.type (#[x,y].map a.eval);pure (Next.value v)) w=_
  rw [Sem.run_bind]
  simp only [List.map_toArray,List.map_cons,List.map_nil]
  rw [hrun];rfl
 have hv':∃ a m c,v'=.slice a m c:=by
  rcases happ.row with ⟨_,rfl,_⟩ | ⟨b,cap,_,_,_,rfl,_⟩ <;> exact ⟨_,_,_,rfl⟩
 have hnb:∀ c,nb=some c→c=w.heap.size∨∃ j,idA=some j∧G3.ω c=some (.o j [])∧j % 4≠2:=by
  intro c hc
  rcases (happ.at_ c hc).1 with h1 | h1
  ·exact .inl h1
  ·exact .inr (hb0 c h1)
 have hbne:∀ j,idB=some j→idA≠some j:=by
  intro j hj he
  rcases hWB with ⟨_,h1⟩ | ⟨j',h1,_,h2,_⟩
  ·rw [hj] at h1;cases h1
  ·rw [hj] at h1
   cases h1
   rcases hWA with ⟨h3,_⟩ | ⟨j'',h3,h4,_⟩
   ·rw [he] at h3;cases h3
   ·rw [he] at h3
    cases h3
    rw [h4,look_one] at h2
    simp at h2
 have hWlook0:∀ r u,(WB++WA).look r=some u→∃ j,r=.o j∧u=.un∧M j:=by
  intro r u hu'
  rw [look_append] at hu'
  rcases hWB with ⟨rfl,_⟩ | ⟨j,_,rfl,_,hm⟩
  ·simp only [St.look,Option.none_or] at hu'
   rcases hWA with ⟨_,rfl,_⟩ | ⟨j',_,rfl,hm',_⟩
   ·cases hu'
   ·rcases look_cons hu' with ⟨e1,e2⟩ | hl
    ·exact ⟨j',e1,e2,hm'⟩
    ·cases hl
  ·cases hl:St.look [(Res.o j,SV.un)] r with
   | some u' =>
    rw [hl] at hu'
    simp only [Option.some_or,Option.some.injEq] at hu'
    subst hu'
    rcases look_cons hl with ⟨e1,e2⟩ | hl
    ·exact ⟨j,e1,e2,hm⟩
    ·cases hl
   | none =>
    rw [hl] at hu'
    simp only [Option.none_or] at hu'
    rcases hWA with ⟨_,rfl,_⟩ | ⟨j',_,rfl,hm',_⟩
    ·cases hu'
    ·rcases look_cons hu' with ⟨e1,e2⟩ | hl
     ·exact ⟨j',e1,e2,hm'⟩
     ·cases hl
 have hAlook:∀ j,idA=some j→(WB++WA).look (.o j)≠none:=by
  intro j hj
  rcases hWA with ⟨h1,_⟩ | ⟨j',h1,rfl,_⟩
  ·rw [hj] at h1;cases h1
  ·rw [hj] at h1
   cases h1
   rw [look_append,look_one]
   intro e
   have:=(Option.or_eq_none_iff.1 e).2
   simp at this
 have hBlook:∀ j,idB=some j→(WB++WA).look (.o j)≠none:=by
  intro j hj
  rcases hWB with ⟨_,h1⟩ | ⟨j',h1,rfl,_⟩
  ·rw [hj] at h1;cases h1
  ·rw [hj] at h1
   cases h1
   rw [look_append,look_one]
   intro e
   have:=(Option.or_eq_none_iff.1 e).1
   simp at this
 let kk:Wk:={ ky with ct:=k5.ct }
 have wk:WOk M B d up ρ G a w kk G3:=⟨w3.rel,w3.keep⟩
 refine new_step (k:=kk) (nb:=nb) (f:=moveL idA idB k5.ct.i xs.length) (Hn:=moveH G3 idA idB xs.length v') (hHn:=moveH_slice hv') (W1:=WB++WA) (y:=r) (t:=.l (xs++ys)) (v:=v') (w':=w') (dp:=dpr)
  h wk hn hM hkw (fun r u hu=>by obtain ⟨j,e1,e2,e3⟩:=hWlook0 r u hu;subst e2;exact ⟨j,e1,trivial,e3,fun i hi=>by simp [idsSV] at hi⟩) (fun l hl=>?_) (fun l l' ⟨b,hb⟩ he=>?_) (moveL_qt hev) (fun c hc=>?_) happ.size (fun c hc=>(happ.at_ c hc).2) (fun b hb hne=>happ.oth b hb hne) happ.so rfl hr ?_ hexec
 ·cases l with
  | f=>rfl
  | x b=>rfl
  | o j p =>
   have:=hl j p rfl
   have h1:idA≠some j:=fun e=>hAlook j e this
   have h2:idB≠some j:=fun e=>hBlook j e this
   simp [moveL,h1,h2]
 ·rcases moveL_id he with h1 | h1
  ·rw [h1];exact .inl (w3.rel.lab b _ hb).1
  ·exact .inr h1
 ·rcases hnb c hc with h1 | ⟨j,h1,h2,h3⟩
  ·exact .inl h1
  ·exact .inr ⟨j,h2,hAlook j h1,h3⟩
 ·have hcb:Cont (G3.mk2 nb k5.ct.i (moveL idA idB k5.ct.i xs.length) (moveH G3 idA idB xs.length v') (moveH_slice hv')) w' k5.ct.i dpr te.sz xs.length ys cv :=
   cont_b (w:=w) hrows (fun j hj=>hbne j hj) hwy hnb hev hlab happ.size happ.oth
  have hca:Cont (G3.mk2 nb k5.ct.i (moveL idA idB k5.ct.i xs.length) (moveH G3 idA idB xs.length v') (moveH_slice hv')) w' k5.ct.i dpr te.sz 0 xs cva:=by
   rcases hcont with rfl | ⟨j,rfl,hcx⟩
   ·exact ⟨fun r hr=>(by cases hr),fun _ _ _ h=>(by simp [at2] at h),fun _ _ _ h=>(by simp [at2] at h),fun _ _ _ h=>(by simp [at2] at h),fun _ _ _ h=>(by simp [at2] at h)⟩
   ·have hj2:j % 4≠2:=by
     rcases hWA with ⟨h1,_⟩ | ⟨i',h1,_,_,h2,_⟩
     ·cases h1
     ·cases h1;exact h2
    refine cont_a (w:=w) hcx (Nat.le_refl _) (fun c hc=>?_) hj2 hev hlab happ.size happ.oth
    rcases hnb c hc with h1 | ⟨j',h1,h2,_⟩
    ·exact .inl h1
    ·cases h1;exact .inr h2
  rcases happ.row with ⟨rfl,hv0,hn0,hm0⟩ | ⟨b,cap,arr,elem,rfl,hv0,hheap,hsize,hle,hz0,g1,g2⟩
  ·have e1:xs++ys=[]:=by rw [List.eq_nil_of_length_eq_zero hn0,List.eq_nil_of_length_eq_zero hm0];rfl
   rw [e1]
   exact .nil (by simp [Gh.mk2,moveH,hv0,kk])
  ·refine hca.join hcb (by simp only [Gh.mk2,if_true,moveH];exact hv0) ⟨hle,fun he=>hz0 (by have:=congrArg List.length he;simpa using this)⟩ (by simp [Gh.mk2]) hheap hsize g1 g2
end
theorem goneN_length {us:List (List T)} {n k:Nat} (h:n+k≤us.length):(goneN us n k).length=us.length:=by
 simp only [goneN,List.length_append,List.length_take,List.length_replicate,List.length_drop];omega
theorem goneN_get {us:List (List T)} {n k i:Nat} {r:List T} (h:n+k≤us.length) (hg:(goneN us n k)[i]?=some r) (hr:r≠[]):us[i]?=some r∧(i < n∨n+k≤i):=by
 unfold goneN at hg
 by_cases h1:i < n
 ·rw [List.append_assoc,List.getElem?_append_left (by rw [List.length_take];omega),List.getElem?_take,if_pos h1] at hg
  exact ⟨hg,.inl h1⟩
 ·rw [List.append_assoc,List.getElem?_append_right (by rw [List.length_take];omega)] at hg
  have hl:(us.take n).length=n:=by rw [List.length_take];omega
  rw [hl] at hg
  by_cases h2:i < n+k
  ·rw [List.getElem?_append_left (by rw [List.length_replicate];omega),List.getElem?_replicate] at hg
   split at hg
   ·cases hg;exact absurd rfl hr
   ·cases hg
  ·rw [List.getElem?_append_right (by rw [List.length_replicate];omega),List.length_replicate,List.getElem?_drop] at hg
   rw [show n+k+(i - n - k)=i by omega] at hg
   exact ⟨hg,.inr (by omega)⟩
theorem freeN_get {us:List (List T)} {n k i:Nat} (h:n+k≤us.length) (hf:freeN us n k=true) (hi:i < k):∃ r,us[n+i]?=some r∧r≠[]:=by
 have hlt:n+i < us.length:=by omega
 refine ⟨us[n+i],List.getElem?_eq_getElem hlt,fun he=>?_⟩
 have hm:us[n+i]∈(us.drop n).take k:=by
  refine List.mem_of_getElem? (i:=i) ?_
  rw [List.getElem?_take,if_pos hi,List.getElem?_drop]
  exact List.getElem?_eq_getElem hlt
 have:=List.all_eq_true.1 hf _ hm
 rw [he] at this
 cases this
theorem tkn_ev {m lo y r:T} (h:Prim.ev .tkn [m,lo,y]=some r):∃ us kk n ys,m=.l us∧lo=.c (.int kk n)∧0≤n∧y=.l ys∧n.toNat+ys.length≤us.length∧freeN us n.toNat ys.length=true∧r=.l (goneN us n.toNat ys.length):=by
 cases m with
 | c v=>simp [Prim.ev] at h
 | l us =>
  cases lo with
  | l _=>simp [Prim.ev] at h
  | c v =>
   cases v with
   | int kk n =>
    cases y with
    | c _=>simp [Prim.ev] at h
    | l ys =>
     simp only [Prim.ev] at h
     split at h
     ·split at h
      ·split at h
       ·cases h
        exact ⟨us,kk,n,ys,rfl,rfl,by assumption,rfl,by assumption,by assumption,rfl⟩
       ·cases h
      ·cases h
     ·cases h
   | _=>cases y <;> simp [Prim.ev] at h
section
variable {M M':Nat→Prop} {B:Base} {d:Nat} {up:Nat→Nat→Value} {ρ:List T} {G:Gh} {a:Act} {w:World} {S:Nat→Sem1} {P:Program} {s:St}
theorem Rel.objs (h:Rel M B d up s ρ G a w) {G':Gh} {W:St} {N:Nat→Prop} (k:Keep (keysOf W) N G w G' w) (hN:∀ i,N i→¬ M i) (hM:∀ i,M i→M' i)
  (hW:∀ r u,W.look r=some u→∃ i,r=.o i∧RelObj G' w ρ i u∧M' i∧∀ j∈idsSV u,M' j) (lab:∀ b l,G'.ω b=some l→M' l.id∧b < w.heap.size):Rel M' B d up (s.sets W) ρ G' a w:=by
 have ha:a.put none undef=a:=rfl
 rw [← ha]
 refine h.step (v:=undef) k hN hM (fun n hn=>by cases hn) ⟨rfl,rfl,rfl⟩ ⟨fun e n u _ hl=>?_,fun b u hl=>?_,fun i u hl=>?_,fun r u hl j hj=>?_,fun i hi=>?_,lab⟩
 ·obtain ⟨i,e1,_⟩:=hW _ _ hl;cases e1
 ·obtain ⟨i,e1,_⟩:=hW _ _ hl;cases e1
 ·obtain ⟨j,e1,e2,_⟩:=hW _ _ hl;cases e1;exact e2
 ·obtain ⟨i,_,_,_,e4⟩:=hW _ _ hl;exact e4 j hj
 ·rcases hi with hi | hi
  ·obtain ⟨u,hu⟩:=Option.ne_none_iff_exists'.1 hi
   obtain ⟨j,e1,_⟩:=hW _ _ hu;cases e1
  ·obtain ⟨u,hu⟩:=Option.ne_none_iff_exists'.1 hi
   obtain ⟨j,e1,_,e3,_⟩:=hW _ _ hu;cases e1;exact e3
def Gh.toks (G:Gh) (tk j n k:Nat):Gh where
 ω:=fun b=>match G.ω b with
  | some (.o i ((r,c) :: p))=>if i=tk∧n≤r∧r < n+k then some (.o j ((r - n,c) :: p)) else some (.o i ((r,c) :: p))
  | l=>l
 β:=G.β
 H:=fun i p=>if i=j then (match p with | []=>G.H j [] | (r,c) :: p=>G.H tk ((n+r,c) :: p)) else G.H i p
 hs:=fun i p=>by
  by_cases h:i=j
  ·subst h
   cases p with
   | nil=>simp only [if_true];exact G.hs i []
   | cons x p=>obtain ⟨r,c⟩:=x;simp only [if_true];exact G.hs tk _
  ·simp only [h,if_false];exact G.hs i p
theorem toks_keep {tk j n k:Nat} (h4:j % 4=0) {I:Lb→Prop} (hI:∀ p,I (.o tk p)) (hJ:∀ p,I (.o j p)):Keep I (fun _=>False) G w (G.toks tk j n k) w:=by
 refine ⟨Nat.le_refl _,fun b _ hb=>⟨qf_of hb (fun h0=>by simp [Gh.toks,h0]) fun l hl hq=>?_,rfl⟩,fun b _ hb=>by simp [Gh.toks,hb],fun b l hl hn=>⟨?_,rfl⟩,fun i _=>⟨rfl,fun p hp=>?_⟩⟩
 ·cases l with
  | o i p =>
   cases p with
   | nil=>exact .inr ⟨_,by simp [Gh.toks,hl],hq⟩
   | cons x p =>
    obtain ⟨r,c⟩:=x
    simp only [Gh.toks,hl]
    split
    ·exact .inr ⟨_,rfl,qt_o (by omega) (by simp)⟩
    ·exact .inr ⟨_,rfl,hq⟩
  | _=>simp [qt] at hq
 ·cases l with
  | o i p =>
   cases p with
   | nil=>simp [Gh.toks,hl]
   | cons x p =>
    obtain ⟨r,c⟩:=x
    have:i≠tk:=fun e=>hn (e ▸ hI _)
    simp [Gh.toks,hl,this]
  | _=>simp [Gh.toks,hl]
 ·by_cases hi:i=j
  ·subst hi
   rcases hp with rfl | hp | hp
   ·simp [Gh.toks]
   ·exact absurd h4 hp
   ·exact absurd (hJ []) (hp [])
  ·simp [Gh.toks,hi]
theorem toks_ok {kA kA' kx:Wk} {G1:Gh} {WA:St} {Y:SV} (hk:WOk M B d up ρ G a w kx G1) (ho:Over kA kx WA) (hWA:∀ r u,WA.look r=some u→u=.un)
  (h:kA.toks Y=some kA') (hd:kA'.Done S ρ) :
  kA.Done S ρ∧kA'.ct.i=kA.ct.i∧∃ kx' G2,WOk M B d up ρ G a w kx' G2∧Over kA' kx' WA∧Keep (fun l=>∃ i p,l=.o i p∧WA.look (.o i)=none) (fun _=>False) G1 w G2 w∧∀ i,G2.H i []=G1.H i []:=by
 unfold Wk.toks at h
 split at h
 ·rename_i j
  split at h
  ·rename_i tk x0 lo y hj
   split at h
   ·rename_i y0 m htk
    cases hc:(x0.beq y0 && Nat.beq (j % 4) 0) with
    | false=>simp [hc] at h
    | true =>
     simp only [hc,cond_true,Option.some.injEq] at h
     simp only [Bool.and_eq_true] at hc
     have hxy:=Lf.beq_eq hc.1
     subst hxy
     have hj4:j % 4=0:=Nat.eq_of_beq_eq_true hc.2
     subst h
     have hnone:∀ {i:Nat} {u:SV},kA.get (.o i)=u→u≠.un→WA.look (.o i)=none:=by
      intro i u hu hne
      cases hl:WA.look (.o i) with
      | none=>rfl
      | some u' =>
       exfalso
       have:=hWA _ _ hl
       subst this
       refine hne ?_
       rw [← hu]
       unfold Wk.get
       rw [ho.2,hl];simp
     have hnj:=hnone hj (by simp)
     have hnt:=hnone htk (by simp)
     have hd1:(kA.em .tkn [m,lo,y]).1.Done S ρ:=hd
     obtain ⟨hd0,r,hr,hrv⟩:=Wk.em_done hd1
     have obj:=hk.obj j
     have obt:=hk.obj tk
     rw [← ho.get hnj,hj] at obj
     rw [← ho.get hnt,htk] at obt
     obtain ⟨t,ht,hden,h2,F,n,zs,hF,hlo,rfl,hzs,hhdr,_⟩:=obj
     obtain ⟨_,F',u,hF',hu,hlen,hrows⟩:=obt
     rw [hF] at hF'
     cases hF'
     simp only [List.map_cons,List.map_nil,Lf.evo_ev ht,Lf.evo_ev hu] at hr
     obtain ⟨us,kk,n',ys,e1,e2,h0,e3,hle,hfr,rfl⟩:=tkn_ev hr
     cases e1
     cases e3
     have hn':n'.toNat=n:=by
      unfold stepI at hlo
      split at hlo
      ·rename_i k2 n2 hl2
       have:=Lf.evo_ev hl2
       rw [this] at e2
       cases e2
       rw [if_pos h0] at hlo
       exact Option.some.inj hlo
      ·cases hlo
     rw [hn'] at hle hfr hrv
     have hjt:j≠tk:=by omega
     let kx':Wk:={ kx with w:=(kx.w.set (.o tk) (.tk x0 (kA.em .tkn [m,lo,y]).2)).set (.o j) (.fr y) }
     let G2:=G1.toks tk j n zs.length
     have key:∀ i p,(i=tk∨i=j)→keysOf [(Res.o j,SV.fr y),(Res.o tk,SV.tk x0 (kA.em .tkn [m,lo,y]).2)] (.o i p):=by
      intro i p hi
      show St.look _ (Res.o i)≠none
      rcases hi with rfl | rfl
      ·simp only [St.look]
       cases (Res.o j).beq (.o i) <;> simp [(Res.beq_iff (r:=Res.o i)).2 rfl]
      ·simp [St.look,(Res.beq_iff (r:=Res.o i)).2 rfl]
     have K:Keep (keysOf [(Res.o j,SV.fr y),(Res.o tk,SV.tk x0 (kA.em .tkn [m,lo,y]).2)]) (fun _=>False) G1 w G2 w :=
      toks_keep hj4 (fun p=>key tk p (.inl rfl)) fun p=>key j p (.inr rfl)
     have Mj:M j:=hk.rel.key j (.inr (by rw [← Wk.get_sets,← ho.get hnj,hj];simp))
     have Mt:M tk:=hk.rel.key tk (.inr (by rw [← Wk.get_sets,← ho.get hnt,htk];simp))
     have rel:=hk.rel.objs (M':=M) K (fun i hf=>hf.elim) (fun i hi=>hi) (fun r u' hl=>by
      rcases look_cons hl with ⟨e1,e2⟩ | hl
      ·subst e1 e2
       refine ⟨j,rfl,?_,Mj,fun i hi=>by simp [idsSV] at hi⟩
       refine ⟨hj4,zs,ht,?_,?_,fun i c l' hat=>?_⟩
       ·have:G2.H j []=G1.H j []:=by simp [G2,Gh.toks]
        rw [this];exact hden.keep K.size K.free
       ·have:G2.H j []=G1.H j []:=by simp [G2,Gh.toks]
        rw [this]
        intro b off k2 c2 hv
        obtain ⟨wd,w1,w2⟩:=hhdr b off k2 c2 hv
        refine ⟨wd,w1,fun i c l' hat=>?_⟩
        rw [w2 i c l' hat]
        simp [G2,Gh.toks]
       ·obtain ⟨row,hrow,_,hrc,hilt,_⟩:=at2_row hat
        obtain ⟨r',hr1,hr2⟩:=freeN_get hle hfr hilt
        obtain ⟨g1,g2⟩:=hrows _ _ hr1 hr2
        rw [hzs i row hrow] at g1
        cases g1
        refine (g2 c l' hrc).move rfl (fun b q hb=>⟨?_,rfl⟩) fun q=>?_
        ·simp only [List.cons_append,List.nil_append] at hb ⊢
         simp only [G2,Gh.toks,hb]
         rw [if_pos (by refine ⟨?_,?_,?_⟩ <;> first | trivial | omega),show n+i - n=i by omega]
        ·simp [G2,Gh.toks]
      ·rcases look_cons hl with ⟨e1,e2⟩ | hl
       ·subst e1 e2
        refine ⟨tk,rfl,⟨h2,F,_,hF,hrv,by rw [goneN_length hle];exact hlen,fun i r hg hne=>?_⟩,Mt,fun i hi=>by simp [idsSV] at hi⟩
        obtain ⟨g1,g2⟩:=goneN_get hle hg hne
        obtain ⟨g3,g4⟩:=hrows i r g1 hne
        refine ⟨g3,fun c l' hrc=>(g4 c l' hrc).move rfl (fun b q hb=>⟨?_,rfl⟩) fun q=>?_⟩
        ·simp only [List.cons_append,List.nil_append] at hb ⊢
         simp only [G2,Gh.toks,hb]
         rw [if_neg (by omega)]
        ·simp [G2,Gh.toks,Ne.symm hjt]
       ·cases hl) fun b l hb=>by
      cases hg:G1.ω b with
      | none=>simp [G2,Gh.toks,hg] at hb
      | some l0 =>
       have hl0:=hk.rel.lab b l0 hg
       refine ⟨?_,hl0.2⟩
       cases l0 with
       | o i p =>
        cases p with
        | nil=>simp [G2,Gh.toks,hg] at hb;subst hb;exact hl0.1
        | cons x p =>
         obtain ⟨r,c⟩:=x
         simp only [G2,Gh.toks,hg] at hb
         split at hb
         ·cases hb;exact Mj
         ·cases hb;exact hl0.1
       | _=>simp [G2,Gh.toks,hg] at hb;subst hb;exact hl0.1
     have hgx:∀ r,(kx.r.sets kx'.w).get r=((kx.r.sets kx.w).sets [(Res.o j,SV.fr y),(Res.o tk,SV.tk x0 (kA.em .tkn [m,lo,y]).2)]).get r:=by
      intro r
      show (kx.r.sets ((kx.w.set (.o tk) _).set (.o j) _)).get r=_
      rw [sets_set_get]
      simp only [St.sets]
      by_cases h1:Res.o j=r
      ·subst h1;rw [St.get_set_self,St.get_set_self]
      ·rw [St.get_set_ne _ _ h1,St.get_set_ne _ _ h1,sets_set_get]
     have look:∀ (K0:Wk) (v1 v2:SV) (r:Res),((K0.w.set (.o tk) v1).set (.o j) v2).look r=if Res.o j=r then some v2 else if Res.o tk=r then some v1 else K0.w.look r:=by
      intro K0 v1 v2 r
      by_cases h1:Res.o j=r
      ·subst h1;rw [if_pos rfl,St.look_set_self]
      ·rw [if_neg h1,St.look_set_ne _ _ h1]
       by_cases h2:Res.o tk=r
       ·subst h2;rw [if_pos rfl,St.look_set_self]
       ·rw [if_neg h2,St.look_set_ne _ _ h2]
     refine ⟨hd0,rfl,kx',G2,⟨rel.congr hgx,?_⟩,⟨ho.1,fun r=>?_⟩,K.mono ?_ fun _ hf=>hf,fun i=>?_⟩
     ·refine (hk.keep.mono (fun l hl=>?_) fun _ hf=>hf).trans (K.mono (fun l hl=>?_) fun _ hf=>hf)
      ·exact keysOf_set (keysOf_set hl)
      ·cases l with
       | o i p =>
        show ((kx.w.set (.o tk) _).set (.o j) _).look (.o i)≠none
        rw [look]
        split
        ·simp
        ·split
         ·simp
         ·rename_i h1 h2
          exfalso
          refine hl ?_
          simp only [St.look]
          have b1:(Res.o j).beq (.o i)=false:=by
           cases hb:(Res.o j).beq (.o i) with
           | false=>rfl
           | true=>exact absurd (Res.beq_iff.1 hb) h1
          have b2:(Res.o tk).beq (.o i)=false:=by
           cases hb:(Res.o tk).beq (.o i) with
           | false=>rfl
           | true=>exact absurd (Res.beq_iff.1 hb) h2
          simp [b1,b2]
       | f=>exact hl.elim
       | x b=>exact absurd rfl (by exact hl)
     ·show (((kA.em .tkn [m,lo,y]).1.w.set (.o tk) _).set (.o j) _).look r=(WA.look r).or (((kx.w.set (.o tk) _).set (.o j) _).look r)
      rw [look (kA.em .tkn [m,lo,y]).1,look kx]
      by_cases h1:Res.o j=r
      ·subst h1;simp [hnj]
      ·rw [if_neg h1,if_neg h1]
       by_cases h2:Res.o tk=r
       ·subst h2;simp [hnt]
       ·rw [if_neg h2,if_neg h2];exact ho.2 r
     ·intro l hl
      cases l with
      | o i p =>
       refine ⟨i,p,rfl,?_⟩
       have hh:i=j∨i=tk:=by
        by_cases h1:i=j
        ·exact .inl h1
        ·by_cases h2:i=tk
         ·exact .inr h2
         ·exfalso
          refine hl ?_
          have b1:(Res.o j).beq (.o i)=false:=by
           cases hb:(Res.o j).beq (.o i) with
           | false=>rfl
           | true=>have:=Res.beq_iff.1 hb;cases this;exact absurd rfl h1
          have b2:(Res.o tk).beq (.o i)=false:=by
           cases hb:(Res.o tk).beq (.o i) with
           | false=>rfl
           | true=>have:=Res.beq_iff.1 hb;cases this;exact absurd rfl h2
          simp [St.look,b1,b2]
       rcases hh with rfl | rfl
       ·exact hnj
       ·exact hnt
      | f=>exact hl.elim
      | x b=>exact absurd rfl hl
     ·by_cases hi:i=j
      ·subst hi;simp [G2,Gh.toks]
      ·simp [G2,Gh.toks,hi]
   ·cases h
  ·cases h
 ·cases h
end
section
variable {M:Nat→Prop} {B:Base} {d:Nat} {up:Nat→Nat→Value} {ρ:List T} {G:Gh} {a:Act} {w:World} {S:Nat→Sem1} {P:Program}
variable {cx:Cx} {fid rid oi:Nat} {s:St} {R:List Res} {ct:Ct} {k':Wk} {o:Oper} {Q:Exit→Act→World→Prop}
theorem st_append (tys:TyAll P cx) (h:Rel M B d up s ρ G a w) (hn:∀ n,o.dst=some n→n < a.tmps.size) {c:Call} {x y:Operand} (ho:o.op=.call c) (hc:c.callee=.builtin .append) (hargs:c.args.toList=[x,y])
  (hk:stepOp cx fid rid d o oi ⟨s.only R,[],ct,[]⟩=some k') (hd:k'.Done S ρ) (hM:∀ i,ct.i≤i→i < k'.ct.i→¬ M i):Goal P (Mn M ct.i k'.ct.i) B d up ρ a w s o k'.w Q:=by
 have hw:=WOk.start h R ct
 simp only [stepOp,ho,hc,hargs] at hk
 split at hk
 ·rename_i t tx hat
  simp only [Option.bind_eq_some_iff] at hk
  obtain ⟨ti,hti,tj,htj,te,hte,hk⟩:=hk
  cases hcc:(Nat.beq ti.kd 3 && Nat.beq tj.kd 3 && Nat.ble te.bytes 32768 && Nat.blt 0 te.sz) with
  | false=>simp [hcc] at hk
  | true =>
   simp only [hcc,cond_true,Option.bind_eq_some_iff,Option.some.injEq] at hk
   simp only [Bool.and_eq_true] at hcc
   obtain ⟨⟨⟨c1,c2⟩,c3⟩,c4⟩:=hcc
   obtain ⟨⟨kA,la,dpA⟩,hA,⟨kB,lb,dpB⟩,hB,hk⟩:=hk
   simp only at hB hk
   have hsz:0 < te.sz:=Nat.lt_of_succ_le (by simpa [Nat.blt] using c4)
   have hk2:putW d o { (kB.em (.app (!te.zero.any isN) te.sz) [la,lb]).1.set (.o (evN kB.ct.i)) (.ob (dpA && dpB) (kB.em (.app (!te.zero.any isN) te.sz) [la,lb]).2) with
     ct:=⟨(kB.em (.app (!te.zero.any isN) te.sz) [la,lb]).1.ct.a,evN kB.ct.i+1⟩ } (.v false [.o (evN kB.ct.i) []])=k':=hk
   have hd1:(kB.em (.app (!te.zero.any isN) te.sz) [la,lb]).1.Done S ρ:=by
    rw [← hk2] at hd
    have h2:=putW_done.1 hd
    exact h2
   obtain ⟨hdB,r,hr,hrv⟩:=Wk.em_done hd1
   obtain ⟨q1,q2,kx,G2,WA,xs,wA,hkxct,hov,hla,hWA⟩:=appA_side (dpr:=dpA && dpB) hw (hw.opn x).1 (hw.opn x).2 hA (fun he=>by simp at he;exact he.1)
   have hWA0:∀ r u,WA.look r=some u→u=.un:=by
    intro r u hu
    rcases hWA with ⟨_,_,rfl⟩ | ⟨j,rfl,_⟩
    ·cases hu
    ·rcases look_cons hu with ⟨_,e2⟩ | hl
     ·exact e2
     ·cases hl
   have hB0:∃ kA',kA.toksIf (te.zero.any isN && !cx.fz fid rid oi) (opnd d (Wk.get ⟨s.only R,[],ct,[]⟩) y)=kA':=⟨_,rfl⟩
   obtain ⟨kA',hkA'⟩:=hB0
   rw [hkA'] at hB
   have hdA':kA'.Done S ρ:=appB_pre hB hdB
   obtain ⟨q1',kx,G2,wA,hov,hWA⟩:kA'.ct.i=kA.ct.i∧∃ kx' G2',WOk M B d up ρ G a w kx' G2'∧Over kA' kx' WA ∧
     ((a.eval x=.slice none 0 0∧xs=[]∧WA=[])∨∃ idA,WA=[(.o idA,.un)]∧M idA∧idA % 4≠2∧a.eval x=G2'.H idA []∧Own G2' w idA (dpA && dpB) [] (.l xs)):=by
    unfold Wk.toksIf at hkA'
    split at hkA'
    ·rename_i kz hz
     subst hkA'
     have hz':kA.toks (opnd d (Wk.get ⟨s.only R,[],ct,[]⟩) y)=some kz:=by
      cases hb:(te.zero.any isN && !cx.fz fid rid oi) with
      | true=>rw [hb] at hz;exact hz
      | false=>rw [hb] at hz;cases hz
     obtain ⟨_,g2,kx',G2',g3,g4,g5,g6⟩:=toks_ok wA hov hWA0 hz' hdA'
     refine ⟨g2,kx',G2',g3,g4,hWA.imp_right ?_⟩
     rintro ⟨j,e1,e2,e3,e4,e5⟩
     subst e1
     refine ⟨j,rfl,e2,e3,by rw [g6];exact e4,e5.keep g5 (fun p hp=>?_) fun hf=>hf⟩
     obtain ⟨i',p',f1,f2⟩:=hp
     cases f1
     rw [look_one] at f2
     simp at f2
    ·subst hkA'
     exact ⟨rfl,kx,G2,wA,hov,hWA⟩
   have hy:RelSV G2 w ρ (opnd d (Wk.get ⟨s.only R,[],ct,[]⟩) y) (a.eval y):=(hw.opn y).1.keep wA.keep fun _ _ hf=>hf
   obtain ⟨_,p2,ky,G3,WB,t2,idB,wB,hovB,hWB,hlb,hH3,kp,_,hsrc⟩:=appB_side (dpr:=dpA && dpB) (P:=P) wA hov hWA0 hy (hw.opn y).2 hB hdB (fun he=>by simp at he;exact he.2)
   simp only [List.map_cons,List.map_nil,Lf.evo_ev hla,Lf.evo_ev hlb] at hr
   obtain ⟨ys,rfl,hlt,hsc,hok1,hok2,rfl⟩:=app_ev hr
   have htx:=(tys.ty _ _ htj).sl (Nat.eq_of_beq_eq_true c2)
   obtain ⟨cv,s1,s2,s3⟩:=hsrc ys te.sz tx tj.el rfl hsz hok2 (fun hf=>hsc (by rw [hf];rfl)) htx
   have hi0:kB.ct.i=ct.i:=by rw [p2,q1',q1]
   have hct:k'.ct.i=evN ct.i+1:=by rw [← hk2,putW_i,← hi0]
   have hev:=evN_le ct.i
   rw [hct,← hk2,← hi0]
   refine Goal.mono (M:=Mn M (evN kB.ct.i) (evN kB.ct.i+1)) ?_ (fun i hi=>hi.imp_right fun hi=>by rw [hi0] at hi ⊢;exact ⟨by omega,hi.2⟩)
   refine append_step (k5:={ (kB.em (.app (!te.zero.any isN) te.sz) [la,lb]).1 with ct:=⟨(kB.em (.app (!te.zero.any isN) te.sz) [la,lb]).1.ct.a,evN kB.ct.i⟩ }) (idA:=WA.head?.bind fun z=>match z.1 with | .o j=>some j | _=>none) (WA:=WA) (WB:=WB) (G3:=G3) tys hti htj hte (Nat.eq_of_beq_eq_true c1) (Nat.eq_of_beq_eq_true c2) (Nat.le_of_ble_eq_true c3) hsz
    h hn ho hc hargs hat wB ⟨(hovB.same (Wk.em_same kB (.app (!te.zero.any isN) te.sz) [la,lb])).1,(hovB.same (Wk.em_same kB (.app (!te.zero.any isN) te.sz) [la,lb])).2⟩ (evN_even _) (hM _ (by show ct.i≤evN kB.ct.i;rw [hi0];exact hev) (by rw [hct];show evN kB.ct.i < _;rw [hi0];omega)) ?_ hWB hok1 hlt (e':=tj.el) s1 s2 s3 hrv (fun r'=>?_)
   ·rcases hWA with ⟨e1,e2,e3⟩ | ⟨j,e1,e2,e22,e3,e4⟩
    ·left
     subst e3
     exact ⟨rfl,rfl,e1,e2⟩
    ·right
     subst e1
     refine ⟨j,rfl,rfl,e2,e22,by rw [hH3];exact e3,e4.keep kp (fun p hp=>?_) fun hf=>hf⟩
     obtain ⟨i',p',e5,e6⟩:=hp
     cases e5
     rw [look_one] at e6
     simp at e6
   ·show ((kB.em (.app (!te.zero.any isN) te.sz) [la,lb]).1.w.set (.o (evN kB.ct.i)) _).look r'=_
    rw [show ((kB.em (.app (!te.zero.any isN) te.sz) [la,lb]).1.w.set (.o (evN kB.ct.i)) (.ob (dpA && dpB) (kB.em (.app (!te.zero.any isN) te.sz) [la,lb]).2)).look r'=_ from set_W (k:=(kB.em (.app (!te.zero.any isN) te.sz) [la,lb]).1) r']
    rw [show (Wk.w (kB.em (.app (!te.zero.any isN) te.sz) [la,lb]).1).look r'=kB.w.look r' from rfl,hovB.2 r',← Option.or_assoc]
    congr 1
    show _=St.look ((Res.o (evN kB.ct.i),_) :: (WB++WA)) r'
    simp only [St.look]
    cases (Res.o (evN kB.ct.i)).beq r' <;> simp
 ·cases hk
def AbsL (ω:Nat→Option Lb) (w:World) (ρ:List T) (dp:Bool):List Ce→List Lf→List Value→Prop
 | [],[],[]=>True
 | z :: zs,x :: xs,v :: vs=>(∃ t,x.evo ρ=some t∧Den ω w t v∧(dp=true→isN z=true→t=.l []∧v=.slice none 0 0))∧AbsL ω w ρ dp zs xs vs
 | _,_,_=>False
theorem AbsL.keep {ω ω':Nat→Option Lb} {w':World} (hs:w.heap.size≤w'.heap.size) (hf:∀ b,b < w.heap.size→ω b=none→ω' b=none∧w'.heap[b]?=w.heap[b]?) {dp dp':Bool} (hd:dp'=true→dp=true) :
  ∀ {zs:List Ce} {xs:List Lf} {vs:List Value},AbsL ω w ρ dp zs xs vs→AbsL ω' w' ρ dp' zs xs vs
 | [],[],[],_=>trivial
 | _ :: _,_ :: _,_ :: _,h=>by
  obtain ⟨⟨t,h1,h2,h3⟩,h4⟩:=h
  exact ⟨⟨t,h1,h2.keep hs hf,fun e=>h3 (hd e)⟩,AbsL.keep hs hf hd h4⟩
 | [],[],_ :: _,h=>h.elim
 | [],_ :: _,_,h=>h.elim
 | _ :: _,[],_,h=>h.elim
 | _ :: _,_ :: _,[],h=>h.elim
theorem absorb_ok:∀ {zs cs:List Ce} {vs:List Value} {k k1:Wk} {xs:List Lf} {dp:Bool} {G1:Gh},WOk M B d up ρ G a w k G1→RelCs G1 w ρ cs vs→k.absorb true zs cs=some (k1,xs,dp) →
  k1.ct=k.ct∧k1.is=k.is∧xs.length=zs.length∧∃ G2,WOk M B d up ρ G a w k1 G2∧G2.H=G1.H∧(∀ b,G1.q b=none→G2.q b=none)∧AbsL G2.q w ρ dp zs xs vs
 | [],[],vs,k,k1,xs,dp,G1,hk,hr,h=>by
  simp only [Wk.absorb,Option.some.injEq,Prod.mk.injEq] at h
  obtain ⟨rfl,rfl,rfl⟩:=h
  cases vs with
  | nil=>exact ⟨rfl,rfl,rfl,G1,hk,rfl,fun _ h=>h,trivial⟩
  | cons _ _=>exact hr.elim
 | z :: zs,.p x :: cs,vs,k,k1,xs,dp,G1,hk,hr,h=>by
  cases vs with
  | nil=>exact hr.elim
  | cons v vs =>
   simp only [Wk.absorb,Option.bind_eq_some_iff,Option.some.injEq,Prod.mk.injEq] at h
   obtain ⟨⟨k2,ys,dp2⟩,h2,rfl,rfl,rfl⟩:=h
   obtain ⟨e1,e2,e3,G2,w2,e4,e5,e6⟩:=absorb_ok hk hr.2 h2
   obtain ⟨t,ht,hd⟩:=hr.1
   refine ⟨e1,e2,by simp [e3],G2,w2,e4,e5,⟨t,ht,hd.keep (Nat.le_refl _) fun b _ hb=>⟨e5 b hb,rfl⟩,fun hdp hz=>by simp [hz] at hdp⟩,e6.keep (Nat.le_refl _) (fun b _ hb=>⟨hb,rfl⟩) fun hdp=>by simp at hdp;exact hdp.1⟩
 | z :: zs,.n :: cs,vs,k,k1,xs,dp,G1,hk,hr,h=>by
  cases vs with
  | nil=>exact hr.elim
  | cons v vs =>
   simp only [Wk.absorb,Option.bind_eq_some_iff,Option.some.injEq,Prod.mk.injEq] at h
   obtain ⟨⟨k2,ys,dp2⟩,h2,rfl,rfl,rfl⟩:=h
   obtain ⟨e1,e2,e3,G2,w2,e4,e5,e6⟩:=absorb_ok hk hr.2 h2
   have hv:v=.slice none 0 0:=hr.1
   subst hv
   exact ⟨e1,e2,by simp [e3],G2,w2,e4,e5,⟨.l [],rfl,.nil,fun _ _=>⟨rfl,rfl⟩⟩,e6⟩
 | z :: zs,.o id [] :: cs,vs,k,k1,xs,dp,G1,hk,hr,h=>by
  cases vs with
  | nil=>exact hr.elim
  | cons v vs =>
   obtain ⟨⟨p,hp,hv⟩,hr2⟩:=hr
   simp only [pthI_nil,Option.some.injEq] at hp
   subst hp
   have hob:=hk.obj id
   simp only [Wk.absorb] at h
   split at h
   ·rename_i pv x hx
    simp only [Option.bind_eq_some_iff,Option.some.injEq,Prod.mk.injEq] at h
    obtain ⟨⟨k2,ys,dp2⟩,h2,rfl,rfl,rfl⟩:=h
    obtain ⟨e1,e2,e3,G2,w2,e4,e5,e6⟩:=absorb_ok hk hr2 h2
    rw [hx] at hob
    obtain ⟨t,ht,hd,_⟩:=hob
    rw [← hv] at hd
    exact ⟨e1,e2,by simp [e3],G2,w2,e4,e5,⟨t,ht,hd.keep (Nat.le_refl _) fun b _ hb=>⟨e5 b hb,rfl⟩,fun hdp=>by cases hdp⟩,e6.keep (Nat.le_refl _) (fun b _ hb=>⟨hb,rfl⟩) fun hdp=>by cases hdp⟩
   ·rename_i dd x hx
    simp only [cond_true,Option.bind_eq_some_iff,Option.some.injEq,Prod.mk.injEq] at h
    obtain ⟨⟨k2,ys,dp2⟩,h2,rfl,rfl,rfl⟩:=h
    have hx2:=hx
    rw [Wk.get_sets] at hx2
    have wt:WOk M B d up ρ G a w (k.set (.o id) (.fz .z x)) (G1.free id true):=by
     refine ⟨(hk.rel.thaw hx2).congr (sets_set_get _ _ _ _),(hk.keep.mono (fun l hl=>keysOf_set hl) fun _ hn=>hn).trans ((G1.free_keep id true w).mono ?_ fun _ hn=>hn)⟩
     rintro l ⟨p,rfl⟩
     show (k.w.set _ _).look (.o id)≠none
     rw [St.look_set_self];simp
    rw [hx] at hob
    obtain ⟨t,ht,hown⟩:=hob
    have hd:Den (G1.free id true).q w t v:=by rw [hv];exact hown.den_all
    have hr3:RelCs (G1.free id true) w ρ cs vs:=hr2.keep (G1.free_keep id true w) fun _ _ hf=>hf
    obtain ⟨e1,e2,e3,G2,w2,e4,e5,e6⟩:=absorb_ok wt hr3 h2
    exact ⟨e1,e2,by simp [e3],G2,w2,e4,fun b hb=>e5 b (Gh.free_q hb),⟨t,ht,hd.keep (Nat.le_refl _) fun b _ hb=>⟨e5 b hb,rfl⟩,fun hdp=>by cases hdp⟩,e6.keep (Nat.le_refl _) (fun b _ hb=>⟨hb,rfl⟩) fun hdp=>by cases hdp⟩
   ·cases h
 | [],_ :: _,vs,k,k1,xs,dp,G1,hk,hr,h=>by simp [Wk.absorb] at h
 | _ :: _,[],vs,k,k1,xs,dp,G1,hk,hr,h=>by simp [Wk.absorb] at h
 | z :: zs,.o id (_ :: _) :: cs,vs,k,k1,xs,dp,G1,hk,hr,h=>by simp [Wk.absorb] at h
 | z :: zs,.d :: cs,vs,k,k1,xs,dp,G1,hk,hr,h=>by simp [Wk.absorb] at h
theorem AbsL.at:∀ {ω:Nat→Option Lb} {dp:Bool} {zs:List Ce} {xs:List Lf} {vs:List Value},AbsL ω w ρ dp zs xs vs→xs.length=vs.length∧zs.length=vs.length ∧
  ∀ (j:Nat) (t:T),(xs.map (Lf.ev ρ))[j]?=some t→∃ z v,zs[j]?=some z∧vs[j]?=some v∧Den ω w t v∧(dp=true→isN z=true→t=.l []∧v=.slice none 0 0)
 | _,_,[],[],[],_=>⟨rfl,rfl,fun j t h=>by simp at h⟩
 | ω,dp,z :: zs,x :: xs,v :: vs,h=>by
  obtain ⟨⟨t,h1,h2,h3⟩,h4⟩:=h
  obtain ⟨e1,e2,e3⟩:=AbsL.at h4
  refine ⟨by simp [e1],by simp [e2],fun j t' hj=>?_⟩
  cases j with
  | zero =>
   simp only [List.map_cons,List.getElem?_cons_zero,Option.some.injEq] at hj
   rw [Lf.evo_ev h1] at hj
   subst hj
   exact ⟨z,v,rfl,rfl,h2,h3⟩
  | succ j=>simpa using e3 j t' (by simpa using hj)
 | _,_,[],[],_ :: _,h=>h.elim
 | _,_,[],_ :: _,_,h=>h.elim
 | _,_,_ :: _,[],_,h=>h.elim
 | _,_,_ :: _,_ :: _,[],h=>h.elim
theorem RelCs.of_get {G1:Gh}:∀ {cs:List Ce} {vs:List Value},cs.length=vs.length→(∀ (j:Nat) (c:Ce) (v:Value),cs[j]?=some c→vs[j]?=some v→RelCe G1 w ρ c v)→RelCs G1 w ρ cs vs
 | [],[],_,_=>trivial
 | [],_ :: _,h,_=>by simp at h
 | _ :: _,[],h,_=>by simp at h
 | c :: cs,v :: vs,h,hf=>⟨hf 0 c v rfl rfl,RelCs.of_get (by simpa using h) fun j c v h1 h2=>hf (j+1) c v (by simpa using h1) (by simpa using h2)⟩
theorem RelCs.get {G1:Gh}:∀ {cs:List Ce} {vs:List Value},RelCs G1 w ρ cs vs→∀ (j:Nat) (c:Ce) (v:Value),cs[j]?=some c→vs[j]?=some v→RelCe G1 w ρ c v
 | [],[],_,j,c,v,h,_=>by simp at h
 | [],_ :: _,h,_,_,_,_,_=>h.elim
 | _ :: _,[],h,_,_,_,_,_=>h.elim
 | c :: cs,v :: vs,h,j,_,_,h1,h2=>by
  cases j with
  | zero=>simp at h1 h2;subst h1 h2;exact h.1
  | succ j=>exact RelCs.get h.2 j _ _ (by simpa using h1) (by simpa using h2)
theorem repCe_length (zs:List Ce):∀ n,(repCe zs n).length=n * zs.length
 | 0=>by simp [repCe]
 | n+1=>by simp [repCe,repCe_length zs n,Nat.add_mul];omega
theorem repCe_get (zs:List Ce):∀ (n i j:Nat),i < n→j < zs.length→(repCe zs n)[i * zs.length+j]?=zs[j]?
 | 0,i,j,h,_=>by omega
 | n+1,0,j,_,hj=>by simp only [repCe,Nat.zero_mul,Nat.zero_add];rw [List.getElem?_append_left hj]
 | n+1,i+1,j,h,hj=>by
  simp only [repCe]
  rw [List.getElem?_append_right (by rw [Nat.add_mul];omega),show (i+1) * zs.length+j - zs.length=i * zs.length+j by rw [Nat.add_mul];omega]
  exact repCe_get zs n i j (by omega) hj
theorem repCe_ids {zs:List Ce} (h:idsCs zs=[]):∀ n,idsCs (repCe zs n)=[]
 | 0=>rfl
 | n+1=>by rw [repCe,idsCs_append,h,repCe_ids h n];rfl
theorem split_div {k n sz:Nat} (h:k < n * sz):k / sz < n∧k % sz < sz∧(k / sz) * sz+k % sz=k:=by
 have hsz:0 < sz:=by
  rcases Nat.eq_zero_or_pos sz with h0 | h0
  ·rw [h0] at h;omega
  ·exact h0
 exact ⟨Nat.div_lt_of_lt_mul (by rw [Nat.mul_comm];exact h),Nat.mod_lt _ hsz,by rw [Nat.mul_comm];exact Nat.div_add_mod k sz⟩
theorem rep_rel {zs:List Ce} {z:Array Value} {G1:Gh} (h:RelCs G1 w ρ zs z.toList) (n:Nat):RelCs G1 w ρ (repCe zs n) (madeCells z (n * z.size)).toList:=by
 have hl:=h.length
 simp only [Array.length_toList] at hl
 refine RelCs.of_get (by rw [repCe_length,hl,Array.length_toList,size_madeCells]) fun k c v hc hv=>?_
 have hk:k < n * z.size:=by have:=(List.getElem?_eq_some_iff.1 hc).1;rw [repCe_length,hl] at this;exact this
 obtain ⟨q1,q2,q3⟩:=split_div hk
 have h1:=repCe_get zs n _ _ q1 (by rw [hl];exact q2)
 rw [hl,q3,hc] at h1
 have h2:=made_get q2 q1
 rw [q3,← Array.getElem?_toList,hv] at h2
 have hc:=h1.symm
 have hv:=h2.symm
 exact h.get _ c v hc (by simpa using hv)
theorem chunks_get (w:Nat):∀ (n:Nat) (ts:List T) (i j:Nat),ts.length=n * w→i < n→j < w→at2 (chunks w n ts) i j=ts[i * w+j]?
 | 0,_,_,_,_,h,_=>by omega
 | n+1,ts,0,j,hl,_,hj=>by
  simp only [chunks,at2,List.getElem?_cons_zero,Option.bind_some,Nat.zero_mul,Nat.zero_add,List.getElem?_take,hj,if_true]
 | n+1,ts,i+1,j,hl,h,hj=>by
  have:=chunks_get w n (ts.drop w) i j (by simp [hl,Nat.add_mul]) (by omega) hj
  simp only [at2,chunks,List.getElem?_cons_succ] at this ⊢
  rw [this,List.getElem?_drop]
  congr 1
  rw [Nat.add_mul];omega
theorem chunks_length (w:Nat):∀ (n:Nat) (ts:List T),(chunks w n ts).length=n
 | 0,_=>rfl
 | n+1,ts=>by simp [chunks,chunks_length w n]
theorem chunks_wd (w:Nat):∀ (n:Nat) (ts:List T),ts.length=n * w→∀ r∈chunks w n ts,r.length=w
 | 0,_,_,r,h=>by cases h
 | n+1,ts,hl,r,h=>by
  simp only [chunks,List.mem_cons] at h
  rcases h with rfl | h
  ·rw [List.length_take,hl,Nat.add_mul];omega
  ·exact chunks_wd w n (ts.drop w) (by simp [hl,Nat.add_mul]) r h
theorem masked_at:∀ (ms:List Bool) (ts:List T),masked ms ts=true→∀ (j:Nat) (t:T),ms[j]?=some true→ts[j]?=some t→scal t=true
 | [],_,_,j,t,h,_=>by simp at h
 | true :: ms,[],h,_,_,_,h2=>by simp at h2
 | false :: ms,[],h,_,_,_,h2=>by simp at h2
 | true :: ms,t :: ts,h,j,u,h1,h2=>by
  simp only [masked,Bool.and_eq_true] at h
  cases j with
  | zero=>simp at h2;subst h2;exact h.1
  | succ j=>exact masked_at ms ts h.2 j u (by simpa using h1) (by simpa using h2)
 | false :: ms,t :: ts,h,j,u,h1,h2=>by
  simp only [masked] at h
  cases j with
  | zero=>simp at h1
  | succ j=>exact masked_at ms ts h j u (by simpa using h1) (by simpa using h2)
theorem run_buildSlice {t e n:Nat} {i:TypeInfo} {z:Value} (hu:P.underlying t=some (.slice e)) (hi:P.info? e=some i) (hz:i.zero=some z) (hs:z.cells.size=i.size) (hb:n * i.size≤65536)
  {parts:Array (Nat × Value)} {arr:Array Value} (g:Instr.fill (fun f=>some (f * i.size,i.size)) (madeCells z.cells (n * i.size)) parts.toList=some arr) :
  (Instr.buildSlice t n parts).run P w=.ok (.slice (some ⟨w.heap.size,0,none⟩) n n) (w.alloc (.cells arr e)):=by
 have hbig:¬ (n * i.size > 2 ^ 24):=by omega
 unfold madeCells at g
 by_cases h0:n * i.size=0
 ·simp only [h0,Array.range_zero',List.map_toArray,List.map_nil] at g
  simp [Instr.buildSlice,run_underlying hu,sizeOf,typeInfo,hi,h0,g,newRow,Array.range_zero']
 ·simp [Instr.buildSlice,run_underlying hu,sizeOf,typeInfo,hi,h0,hbig,zeroValue,hz,g,newRow]
abbrev Mv:=List (Nat × Nat)
def mvAt:Mv→Nat→Option Nat
 | [],_=>none
 | (p,i) :: mv,q=>bif Nat.beq p q then some i else mvAt mv q
def mvOf:Mv→Nat→Option Nat
 | [],_=>none
 | (p,i) :: mv,j=>bif Nat.beq i j then some p else mvOf mv j
theorem mvAt_mem:∀ {mv:Mv} {q i:Nat},mvAt mv q=some i→(q,i)∈mv
 | [],q,i,h=>by simp [mvAt] at h
 | (p,j) :: mv,q,i,h=>by
  simp only [mvAt] at h
  cases hb:Nat.beq p q with
  | true=>simp [hb] at h;subst h;rw [Nat.eq_of_beq_eq_true hb];exact List.mem_cons_self
  | false=>simp [hb] at h;exact List.mem_cons_of_mem _ (mvAt_mem h)
theorem mvOf_mem:∀ {mv:Mv} {q i:Nat},mvOf mv i=some q→(q,i)∈mv
 | [],q,i,h=>by simp [mvOf] at h
 | (p,j) :: mv,q,i,h=>by
  simp only [mvOf] at h
  cases hb:Nat.beq j i with
  | true=>simp [hb] at h;subst h;rw [Nat.eq_of_beq_eq_true hb];exact List.mem_cons_self
  | false=>simp [hb] at h;exact List.mem_cons_of_mem _ (mvOf_mem h)
def MvL (G:Gh) (w:World) (ρ:List T) (mv:Mv):Nat→List Lf→List Value→Prop
 | _,[],[]=>True
 | q,x :: xs,v :: vs=>(∃ t,x.evo ρ=some t∧((∃ u,t=.c u∧v=u∧scV u=true)∨(t=.l []∧v=.slice none 0 0∧mvAt mv q=none)∨∃ i,mvAt mv q=some i∧v=G.H i []∧Own G w i true [] t))∧MvL G w ρ mv (q+1) xs vs
 | _,_,_=>False
theorem absorbD_ok {G1:Gh}:∀ {zs cs:List Ce} {vs:List Value} {k k1:Wk} {xs:List Lf} {k0:Wk} {W0:St},WOk M B d up ρ G a w k0 G1→Over k k0 W0→(∀ r u,W0.look r=some u→∃ j,r=.o j∧u=.un)→RelCs G1 w ρ cs vs→(∀ i∈idsCs cs,M i) →
  k.absorbD zs cs=some (k1,xs)→∀ q,k1.ct=k.ct∧k1.is=k.is∧xs.length=zs.length∧zs.length=cs.length∧∃ mv W1,Over k1 k0 (W1++W0)∧(∀ p i,(p,i)∈mv→q≤p∧M i∧W1.look (.o i)=some .un∧W0.look (.o i)=none)∧(∀ r u,W1.look r=some u→∃ p j,r=.o j∧u=.un∧M j∧(p,j)∈mv) ∧
   (∀ p i,(p,i)∈mv→mvAt mv p=some i∧mvOf mv i=some p) ∧
   (∀ (mv':Mv),(∀ p,q≤p→mvAt mv' p=mvAt mv p)→(∀ (j:Nat) (t:T),(∃ x,xs[j]?=some x∧x.evo ρ=some t)→zs[j]?.map isN=some false→scal t=true)→MvL G1 w ρ mv' q xs vs)
 | [],[],vs,k,k1,xs,k0,W0,hk,ho,hW,hr,hm,h,q=>by
  simp only [Wk.absorbD,Option.some.injEq,Prod.mk.injEq] at h
  obtain ⟨rfl,rfl⟩:=h
  cases vs with
  | nil=>exact ⟨rfl,rfl,rfl,rfl,[],[],ho,(fun p i h=>by cases h),(fun r u h=>by cases h),(fun p i h=>by cases h),fun _ _ _=>trivial⟩
  | cons _ _=>exact hr.elim
 | z :: zs,.p x :: cs,vs,k,k1,xs,k0,W0,hk,ho,hW,hr,hm,h,q=>by
  cases vs with
  | nil=>exact hr.elim
  | cons v vs =>
   simp only [Wk.absorbD] at h
   cases hz:isN z with
   | true=>simp [hz] at h
   | false =>
    simp only [hz,cond_false,Option.bind_eq_some_iff,Option.some.injEq,Prod.mk.injEq] at h
    obtain ⟨⟨k2,ys⟩,h2,rfl,rfl⟩:=h
    obtain ⟨e1,e2,e3,e4,mv,W1,e5,e6,e7,e8,e9⟩:=absorbD_ok hk ho hW hr.2 (fun i hi=>hm i (by simpa [idsCs] using hi)) h2 (q+1)
    refine ⟨e1,e2,by simp [e3],by simp [e4],mv,W1,e5,fun p i hp=>by have:=e6 p i hp;exact ⟨by omega,this.2⟩,e7,e8,fun mv' hmv hsc=>?_⟩
    obtain ⟨t,ht,hd⟩:=hr.1
    have hst:=hsc 0 t ⟨x,rfl,ht⟩ (by simp [hz])
    obtain ⟨u,rfl⟩:=scal_c hst
    obtain ⟨rfl,hu⟩:=hd.scalar
    exact ⟨⟨.c v,ht,.inl ⟨v,rfl,rfl,hu⟩⟩,e9 mv' (fun p hp=>hmv p (by omega)) fun j t hj hzj=>hsc (j+1) t (by simpa using hj) (by simpa using hzj)⟩
 | z :: zs,.n :: cs,vs,k,k1,xs,k0,W0,hk,ho,hW,hr,hm,h,q=>by
  cases vs with
  | nil=>exact hr.elim
  | cons v vs =>
   simp only [Wk.absorbD,Option.bind_eq_some_iff,Option.some.injEq,Prod.mk.injEq] at h
   obtain ⟨⟨k2,ys⟩,h2,rfl,rfl⟩:=h
   obtain ⟨e1,e2,e3,e4,mv,W1,e5,e6,e7,e8,e9⟩:=absorbD_ok hk ho hW hr.2 (fun i hi=>hm i (by simpa [idsCs] using hi)) h2 (q+1)
   refine ⟨e1,e2,by simp [e3],by simp [e4],mv,W1,e5,fun p i hp=>by have:=e6 p i hp;exact ⟨by omega,this.2⟩,e7,e8,fun mv' hmv hsc=>?_⟩
   have hv:v=.slice none 0 0:=hr.1
   have hnone:mvAt mv q=none:=by
    cases hm:mvAt mv q with
    | none=>rfl
    | some i =>
     have:=mvAt_mem hm
     have:=(e6 q i this).1
     omega
   exact ⟨⟨.l [],rfl,.inr (.inl ⟨rfl,hv,by rw [hmv q (Nat.le_refl _)];exact hnone⟩)⟩,e9 mv' (fun p hp=>hmv p (by omega)) fun j t hj hzj=>hsc (j+1) t (by simpa using hj) (by simpa using hzj)⟩
 | z :: zs,.o id [] :: cs,vs,k,k1,xs,k0,W0,hk,ho,hW,hr,hm,h,q=>by
  cases vs with
  | nil=>exact hr.elim
  | cons v vs =>
   simp only [Wk.absorbD] at h
   split at h
   ·rename_i x hx
    simp only [Option.bind_eq_some_iff,Option.some.injEq,Prod.mk.injEq] at h
    obtain ⟨⟨k2,ys⟩,h2,rfl,rfl⟩:=h
    have hnone:W0.look (.o id)=none:=by
     cases hl:W0.look (.o id) with
     | none=>rfl
     | some u =>
      exfalso
      obtain ⟨j,_,rfl⟩:=hW _ _ hl
      have:k.get (.o id)=.un:=by unfold Wk.get;rw [ho.2,hl];simp
      rw [this] at hx;cases hx
    have ho':Over (k.set (.o id) .un) k0 ([(.o id,.un)]++W0):=⟨ho.1,fun r=>by rw [show (k.set (.o id) .un).w.look r=_ from set_W r,look_append,ho.2,Option.or_assoc]⟩
    obtain ⟨e1,e2,e3,e4,mv,W1,e5,e6,e7,e8,e9⟩:=absorbD_ok hk ho' (fun r u hl=>by
     rw [look_append] at hl
     cases h1:St.look [(Res.o id,SV.un)] r with
     | some u'=>rw [h1] at hl;simp at hl;subst hl;rcases look_cons h1 with ⟨q1,q2⟩ | q1;exact ⟨id,q1,q2⟩;cases q1
     | none=>rw [h1] at hl;exact hW r u (by simpa using hl)) hr.2 (fun i hi=>hm i (by simp [idsCs,hi])) h2 (q+1)
    have hid:∀ p i,(p,i)∈mv→i≠id:=by
     intro p i hp he
     subst he
     have:=(e6 p i hp).2.2.2
     rw [look_append,look_one] at this
     simp at this
    refine ⟨e1,e2,by simp [e3],by simp [e4],(q,id) :: mv,W1++[(.o id,.un)],by rw [List.append_assoc];exact e5,fun p i hp=>?_,fun r u hl=>?_,fun p i hp=>?_,fun mv' hmv hsc=>?_⟩
    ·rcases List.mem_cons.1 hp with hp | hp
     ·cases hp
      have:W1.look (.o id)=none:=by
       cases hl:W1.look (.o id) with
       | none=>rfl
       | some u=>obtain ⟨p,j,q1,_,_,q2⟩:=e7 _ _ hl;cases q1;exact absurd rfl (hid p _ q2)
      exact ⟨Nat.le_refl _,hm id (by simp [idsCs]),by rw [look_append,this,look_one];simp,hnone⟩
     ·obtain ⟨q1,q2,q3,q4⟩:=e6 p i hp
      refine ⟨by omega,q2,by rw [look_append,q3];rfl,?_⟩
      rw [look_append] at q4
      exact (Option.or_eq_none_iff.1 q4).2
    ·rw [look_append] at hl
     cases h1:W1.look r with
     | some u' =>
      rw [h1] at hl
      simp at hl
      subst hl
      obtain ⟨p,j,q1,q2,q3,q4⟩:=e7 r u' h1
      exact ⟨p,j,q1,q2,q3,by simp [q4]⟩
     | none =>
      rw [h1] at hl
      simp only [Option.none_or] at hl
      rcases look_cons hl with ⟨q1,q2⟩ | q1
      ·exact ⟨q,id,q1,q2,hm id (by simp [idsCs]),by simp⟩
      ·cases q1
    ·rcases List.mem_cons.1 hp with hp | hp
     ·cases hp;simp [mvAt,mvOf]
     ·have h1:=(e6 p i hp).1
      have h2:=hid p i hp
      have b1:Nat.beq q p=false:=by
       cases hb:Nat.beq q p with
       | false=>rfl
       | true=>have:=Nat.eq_of_beq_eq_true hb;omega
      have b2:Nat.beq id i=false:=by
       cases hb:Nat.beq id i with
       | false=>rfl
       | true=>exact absurd (Nat.eq_of_beq_eq_true hb).symm h2
      simp only [mvAt,mvOf,b1,b2,cond_false]
      exact e8 p i hp
    ·have hob:=hk.obj id
     have hx0:k0.get (.o id)=.ob true x:=by rw [← ho.get hnone];exact hx
     rw [hx0] at hob
     obtain ⟨t,ht,hown⟩:=hob
     obtain ⟨p,hp,hv⟩:=hr.1
     simp only [pthI_nil,Option.some.injEq] at hp
     subst hp
     refine ⟨⟨t,ht,.inr (.inr ⟨id,by rw [hmv q (Nat.le_refl _)];simp [mvAt],hv,hown⟩)⟩,e9 mv' (fun p hp=>?_) fun j t hj hzj=>hsc (j+1) t (by simpa using hj) (by simpa using hzj)⟩
     rw [hmv p (by omega)]
     have b1:Nat.beq q p=false:=by
      cases hb:Nat.beq q p with
      | false=>rfl
      | true=>have:=Nat.eq_of_beq_eq_true hb;omega
     simp only [mvAt,b1,cond_false]
   ·rename_i x hx
    simp only [Option.bind_eq_some_iff,Option.some.injEq,Prod.mk.injEq] at h
    obtain ⟨⟨k2,ys⟩,h2,rfl,rfl⟩:=h
    have hnone:W0.look (.o id)=none:=by
     cases hl:W0.look (.o id) with
     | none=>rfl
     | some u =>
      exfalso
      obtain ⟨j,_,rfl⟩:=hW _ _ hl
      have:k.get (.o id)=.un:=by unfold Wk.get;rw [ho.2,hl];simp
      rw [this] at hx;cases hx
    have ho':Over (k.set (.o id) .un) k0 ([(.o id,.un)]++W0):=⟨ho.1,fun r=>by rw [show (k.set (.o id) .un).w.look r=_ from set_W r,look_append,ho.2,Option.or_assoc]⟩
    obtain ⟨e1,e2,e3,e4,mv,W1,e5,e6,e7,e8,e9⟩:=absorbD_ok hk ho' (fun r u hl=>by
     rw [look_append] at hl
     cases h1:St.look [(Res.o id,SV.un)] r with
     | some u'=>rw [h1] at hl;simp at hl;subst hl;rcases look_cons h1 with ⟨q1,q2⟩ | q1;exact ⟨id,q1,q2⟩;cases q1
     | none=>rw [h1] at hl;exact hW r u (by simpa using hl)) hr.2 (fun i hi=>hm i (by simp [idsCs,hi])) h2 (q+1)
    have hid:∀ p i,(p,i)∈mv→i≠id:=by
     intro p i hp he
     subst he
     have:=(e6 p i hp).2.2.2
     rw [look_append,look_one] at this
     simp at this
    refine ⟨e1,e2,by simp [e3],by simp [e4],(q,id) :: mv,W1++[(.o id,.un)],by rw [List.append_assoc];exact e5,fun p i hp=>?_,fun r u hl=>?_,fun p i hp=>?_,fun mv' hmv hsc=>?_⟩
    ·rcases List.mem_cons.1 hp with hp | hp
     ·cases hp
      have:W1.look (.o id)=none:=by
       cases hl:W1.look (.o id) with
       | none=>rfl
       | some u=>obtain ⟨p,j,q1,_,_,q2⟩:=e7 _ _ hl;cases q1;exact absurd rfl (hid p _ q2)
      exact ⟨Nat.le_refl _,hm id (by simp [idsCs]),by rw [look_append,this,look_one];simp,hnone⟩
     ·obtain ⟨q1,q2,q3,q4⟩:=e6 p i hp
      refine ⟨by omega,q2,by rw [look_append,q3];rfl,?_⟩
      rw [look_append] at q4
      exact (Option.or_eq_none_iff.1 q4).2
    ·rw [look_append] at hl
     cases h1:W1.look r with
     | some u' =>
      rw [h1] at hl
      simp at hl
      subst hl
      obtain ⟨p,j,q1,q2,q3,q4⟩:=e7 r u' h1
      exact ⟨p,j,q1,q2,q3,by simp [q4]⟩
     | none =>
      rw [h1] at hl
      simp only [Option.none_or] at hl
      rcases look_cons hl with ⟨q1,q2⟩ | q1
      ·exact ⟨q,id,q1,q2,hm id (by simp [idsCs]),by simp⟩
      ·cases q1
    ·rcases List.mem_cons.1 hp with hp | hp
     ·cases hp;simp [mvAt,mvOf]
     ·have h1:=(e6 p i hp).1
      have h2:=hid p i hp
      have b1:Nat.beq q p=false:=by
       cases hb:Nat.beq q p with
       | false=>rfl
       | true=>have:=Nat.eq_of_beq_eq_true hb;omega
      have b2:Nat.beq id i=false:=by
       cases hb:Nat.beq id i with
       | false=>rfl
       | true=>exact absurd (Nat.eq_of_beq_eq_true hb).symm h2
      simp only [mvAt,mvOf,b1,b2,cond_false]
      exact e8 p i hp
    ·have hob:=hk.obj id
     have hx0:k0.get (.o id)=.fl x:=by rw [← ho.get hnone];exact hx
     rw [hx0] at hob
     obtain ⟨_,t,ht,hown⟩:=hob
     obtain ⟨p,hp,hv⟩:=hr.1
     simp only [pthI_nil,Option.some.injEq] at hp
     subst hp
     refine ⟨⟨t,ht,.inr (.inr ⟨id,by rw [hmv q (Nat.le_refl _)];simp [mvAt],hv,hown⟩)⟩,e9 mv' (fun p hp=>?_) fun j t hj hzj=>hsc (j+1) t (by simpa using hj) (by simpa using hzj)⟩
     rw [hmv p (by omega)]
     have b1:Nat.beq q p=false:=by
      cases hb:Nat.beq q p with
      | false=>rfl
      | true=>have:=Nat.eq_of_beq_eq_true hb;omega
     simp only [mvAt,b1,cond_false]
   ·cases h
 | [],_ :: _,vs,k,k1,xs,k0,W0,_,_,_,_,_,h,_=>by simp [Wk.absorbD] at h
 | _ :: _,[],vs,k,k1,xs,k0,W0,_,_,_,_,_,h,_=>by simp [Wk.absorbD] at h
 | _ :: _,.d :: _,vs,k,k1,xs,k0,W0,_,_,_,_,_,h,_=>by simp [Wk.absorbD] at h
 | _ :: _,.o _ (_ :: _) :: _,vs,k,k1,xs,k0,W0,_,_,_,_,_,h,_=>by simp [Wk.absorbD] at h
theorem MvL.at {G1:Gh} {mv:Mv}:∀ {xs:List Lf} {vs:List Value} {q:Nat},MvL G1 w ρ mv q xs vs→xs.length=vs.length∧∀ (j:Nat) (t:T),(xs.map (Lf.ev ρ))[j]?=some t→∃ v,vs[j]?=some v ∧
  ((∃ u,t=.c u∧v=u∧scV u=true)∨(t=.l []∧v=.slice none 0 0∧mvAt mv (q+j)=none)∨∃ i,mvAt mv (q+j)=some i∧v=G1.H i []∧Own G1 w i true [] t)
 | [],[],q,_=>⟨rfl,fun j t h=>by simp at h⟩
 | x :: xs,v :: vs,q,h=>by
  obtain ⟨⟨t,h1,h2⟩,h3⟩:=h
  obtain ⟨e1,e2⟩:=MvL.at h3
  refine ⟨by simp [e1],fun j t' hj=>?_⟩
  cases j with
  | zero =>
   simp only [List.map_cons,List.getElem?_cons_zero,Option.some.injEq] at hj
   rw [Lf.evo_ev h1] at hj
   subst hj
   exact ⟨v,rfl,h2⟩
  | succ j =>
   have:=e2 j t' (by simpa using hj)
   rw [show q+1+j=q+(j+1) by omega] at this
   simpa using this
 | [],_ :: _,q,h=>h.elim
 | _ :: _,[],q,h=>h.elim
def mvL (mv:Mv) (sz i:Nat):Lb→Option Lb
 | .o j p=>match mvOf mv j with
  | some q=>some (.o i ((q / sz,q % sz) :: p))
  | none=>some (.o j p)
 | l=>some l
theorem mvL_qt {mv:Mv} {sz i:Nat} (hi:i % 2=0) (l l':Lb) (hq:qt l=true) (h:mvL mv sz i l=some l'):qt l'=true:=by
 cases l with
 | o j p =>
  simp only [mvL] at h
  split at h
  ·cases h;exact qt_o hi (by simp)
  ·cases h;exact hq
 | _=>simp [qt] at hq
def mvH (G:Gh) (mv:Mv) (sz:Nat) (v:Value):List (Nat × Nat)→Value
 | []=>v
 | (r,c) :: p=>match mvAt mv (r * sz+c) with
  | some j=>G.H j p
  | none=>.slice none 0 0
theorem buildSliceD (tys:TyAll P cx) (h:Rel M B d up s ρ G a w) (hn:∀ n,o.dst=some n→n < a.tmps.size) {t n:Nat} {ps:Array (Nat × Operand)} (ho:o.op=.buildSlice t n ps) {ti te:TI} (hti:cx.ty t=some ti) (hte:cx.ty ti.el=some te)
  {i:TypeInfo} {z:Value} (hu:P.underlying t=some (.slice ti.el)) (hi1:P.info? ti.el=some i) (hi2:i.size=te.sz) (hi4:i.zero=some z) (hszz:z.cells.size=te.sz) (hsz:0 < te.sz) (hb:n * te.sz≤65536)
  (hz1:RelCs G w ρ te.zero z.cells.toList) (hz2:idsCs te.zero=[]) {cs:List Ce} {arr:Array Value} (g1:Instr.fill (fun i=>some (i * te.sz,te.sz)) (madeCells z.cells (n * z.cells.size)) (ps.toList.map fun p=>(p.1,a.eval p.2))=some arr) (g2:RelCs G w ρ cs arr.toList∧∀ i∈idsCs cs,M i)
  (harr:arr.size=n * te.sz) {k1:Wk} {xs:List Lf} (hD:Wk.absorbD ⟨s.only R,[],ct,[]⟩ (repCe te.zero n) cs=some (k1,xs))
  (hk:(let r:=k1.em (.lit te.sz (bif true then (repCe te.zero n).map (fun z=>!isN z) else [])) xs;putW d o { r.1.set (.o (evN r.1.ct.i)) (.ob true r.2) with ct:=⟨r.1.ct.a,evN r.1.ct.i+1⟩ } (.v false [.o (evN r.1.ct.i) []]))=k') (hd:k'.Done S ρ) (hM:∀ i,ct.i≤i→i < k'.ct.i→¬ M i) :
  Goal P (Mn M ct.i k'.ct.i) B d up ρ a w s o k'.w Q:=by
 have hw:=WOk.start h R ct
 obtain ⟨a1,a2,a3,a4,mv,W1,a5,a6,a7,a8,a9⟩:=absorbD_ok hw (show Over ⟨s.only R,[],ct,[]⟩ ⟨s.only R,[],ct,[]⟩ [] from ⟨rfl,fun r=>by simp [St.look]⟩) (fun r u h=>by cases h) g2.1 g2.2 hD 0
 rw [List.append_nil] at a5
 generalize hy:k1.em (.lit te.sz (bif true then (repCe te.zero n).map (fun z=>!isN z) else [])) xs=ky at hk
 obtain ⟨k2,y⟩:=ky
 have hk2e:k2=(k1.em (.lit te.sz (bif true then (repCe te.zero n).map (fun z=>!isN z) else [])) xs).1:=by rw [hy]
 have hye:y=(k1.em (.lit te.sz (bif true then (repCe te.zero n).map (fun z=>!isN z) else [])) xs).2:=by rw [hy]
 have hs2:k1.Same k2:=by rw [hk2e];exact Wk.em_same _ _ _
 have hk3:putW d o { k2.set (.o (evN k2.ct.i)) (.ob true y) with ct:=⟨k2.ct.a,evN k2.ct.i+1⟩ } (.v false [.o (evN k2.ct.i) []])=k':=hk
 have hi0:k2.ct.i=ct.i:=by rw [hs2.i,a1]
 have hd1:(k1.em (.lit te.sz (bif true then (repCe te.zero n).map (fun z=>!isN z) else [])) xs).1.Done S ρ:=by
  rw [← hk2e]
  rw [← hk3] at hd
  have h2:=putW_done.1 hd
  exact h2
 obtain ⟨hd0,r,hr,hrv⟩:=Wk.em_done hd1
 rw [← hye] at hrv
 have hzl:te.zero.length=te.sz:=by have:=hz1.length;rw [this];simpa using hszz
 have hxl:(xs.map (Lf.ev ρ)).length=n * te.sz:=by rw [List.length_map,a3,repCe_length,hzl]
 have hlit:r=.l (chunks te.sz n (xs.map (Lf.ev ρ)))∧masked ((repCe te.zero n).map (fun z=>!isN z)) (xs.map (Lf.ev ρ))=true:=by
  simp only [Prim.ev,hxl,Nat.mul_div_cancel _ hsz,if_pos hsz,cond_true] at hr
  split at hr
  ·rename_i hm
   exact ⟨(Option.some.inj hr).symm,hm⟩
  ·cases hr
 obtain ⟨rfl,hmask⟩:=hlit
 have hmv:=a9 mv (fun _ _=>rfl) fun j t ⟨x,hx,ht⟩ hzj=>by
  refine masked_at _ _ hmask j t ?_ ?_
  ·cases hzz:(repCe te.zero n)[j]? with
   | none=>rw [hzz] at hzj;cases hzj
   | some zc=>rw [hzz] at hzj;simp at hzj;simp [hzz,hzj]
  ·rw [List.getElem?_map,hx];simp [Lf.evo_ev ht]
 obtain ⟨b1,b3⟩:=hmv.at
 have hct:k'.ct.i=evN ct.i+1:=by rw [← hk3,putW_i,← hi0]
 have hev:=evN_le ct.i
 let Hn:=mvH G mv te.sz (.slice (some ⟨w.heap.size,0,none⟩) n n)
 have hHn:∀ p,∃ a n c,Hn p=.slice a n c:=fun p=>by
  cases p with
  | nil=>exact ⟨_,_,_,rfl⟩
  | cons x p =>
   obtain ⟨r0,c0⟩:=x
   cases hm:mvAt mv (r0 * te.sz+c0) with
   | none=>exact ⟨none,0,0,by simp only [Hn,mvH,hm]⟩
   | some j=>obtain ⟨a0,n0,c1,h0⟩:=G.hs j p;exact ⟨a0,n0,c1,by simp only [Hn,mvH,hm];exact h0⟩
 have hrun:(Instr.buildSlice t n (ps.map fun (i,x)=>(i,a.eval x))).run P w=.ok (.slice (some ⟨w.heap.size,0,none⟩) n n) (w.alloc (.cells arr ti.el)):=by
  have hps:(ps.map fun (x:Nat × Operand)=>(x.1,a.eval x.2)).toList=ps.toList.map fun p=>(p.1,a.eval p.2):=by simp
  rw [← hps,← hi2] at g1
  exact run_buildSlice hu hi1 hi4 (by rw [hszz,hi2]) (by rw [hi2];exact hb) (by rw [hi2] at g1 ⊢;rw [← hszz] at g1 ⊢;exact g1)
 have hexec:(execOp a.eval o).run P w=.ok (.value (Hn [])) (w.alloc (.cells arr ti.el)):=by
  unfold execOp
  simp only [ho]
  rw [Sem.run_bind,hrun]
  rfl
 rw [hct,← hk3,← hi0]
 have hnm:¬ M (evN k2.ct.i):=hM _ (by rw [hi0];exact hev) (by rw [hct,hi0];omega)
 refine Goal.mono (M:=Mn M (evN k2.ct.i) (evN k2.ct.i+1)) ?_ (fun i hi=>hi.imp_right fun hi=>by rw [hi0] at hi ⊢;exact ⟨by omega,hi.2⟩)
 refine new_step (nb:=some w.heap.size) (f:=mvL mv te.sz (evN k2.ct.i)) (Hn:=Hn) (hHn:=hHn) (w':=w.alloc (.cells arr ti.el)) (k:={ (⟨s.only R,[],ct,[]⟩:Wk) with ct:=⟨k2.ct.a,evN k2.ct.i⟩ }) (W1:=W1) (dp:=true) (y:=y) (t:=.l (chunks te.sz n (xs.map (Lf.ev ρ))))
  h (show WOk M B d up ρ G a w { (⟨s.only R,[],ct,[]⟩:Wk) with ct:=⟨k2.ct.a,evN k2.ct.i⟩ } G from ⟨hw.rel,hw.keep⟩) hn hnm (fun r=>?_) (fun r u hu=>by obtain ⟨p,j,q1,q2,q3,_⟩:=a7 r u hu;subst q2;exact ⟨j,q1,trivial,q3,fun i hi=>by simp [idsSV] at hi⟩) (fun l hl=>?_) (fun l l' ⟨b,hb⟩ he=>?_)
  (mvL_qt (evN_even _)) (fun c hc=>by cases hc;exact .inl rfl) (by simp) (fun c hc=>by cases hc;simp) (fun b hb _=>heap_alloc_old w _ b hb) (so_alloc _ _) rfl hrv ?_ hexec
 ·show ((k2.w.set (.o (evN k2.ct.i)) _)).look r=_
  rw [show (k2.w.set (.o (evN k2.ct.i)) (.ob true y)).look r=_ from set_W (k:=k2) r]
  rw [show k2.w.look r=k1.w.look r by rw [hs2.w],a5.2 r,← Option.or_assoc]
  congr 1
  show _=St.look ((Res.o (evN k2.ct.i),_) :: W1) r
  simp only [St.look]
  cases (Res.o (evN k2.ct.i)).beq r <;> simp
 ·cases l with
  | f=>rfl
  | x b=>rfl
  | o j p =>
   have h0:=hl j p rfl
   have:mvOf mv j=none:=by
    cases hm:mvOf mv j with
    | none=>rfl
    | some q=>have:=(a6 q j (mvOf_mem hm)).2.2.1;rw [h0] at this;cases this
   simp [mvL,this]
 ·have hlab:=hw.rel.lab b _ hb
  cases l with
  | f=>cases he;exact .inl hlab.1
  | x b=>cases he;exact .inl hlab.1
  | o j p =>
   simp only [mvL] at he
   split at he
   ·cases he;exact .inr rfl
   ·cases he;exact .inl hlab.1
 ·have hlen:(chunks te.sz n (xs.map (Lf.ev ρ))).length=n:=chunks_length _ _ _
  have zat:∀ (ii j:Nat) (t:T),at2 (chunks te.sz n (xs.map (Lf.ev ρ))) ii j=some t→ii < n∧j < te.sz∧∃ v,arr[ii * te.sz+j]?=some v ∧
    ((∃ u,t=.c u∧v=u∧scV u=true)∨(t=.l []∧v=.slice none 0 0∧mvAt mv (ii * te.sz+j)=none)∨∃ i,mvAt mv (ii * te.sz+j)=some i∧v=G.H i []∧Own G w i true [] t):=by
   intro ii j t ht
   obtain ⟨rr,_,hm,hrj,q1,q2⟩:=at2_row ht
   rw [hlen] at q1
   rw [chunks_wd _ _ _ hxl rr hm] at q2
   rw [chunks_get _ _ _ _ _ hxl q1 q2] at ht
   obtain ⟨v,c2,c3⟩:=b3 _ t ht
   rw [Nat.zero_add] at c3
   exact ⟨q1,q2,v,by simpa using c2,c3⟩
  refine .l (wd:=te.sz) (cv:=fun ii j=>arr.getD (ii * te.sz+j) undef) (by rw [hlen];simp [Gh.mk2,Hn,mvH]) ⟨by rw [hlen];exact Nat.le_refl _,fun he=>by have:=congrArg List.length he;rw [hlen] at this;simpa using this⟩ (by simp [Gh.mk2]) (heap_alloc_new w _) harr (chunks_wd _ _ _ hxl) ?_ ?_ (fun _ _ _ _ hf=>by cases hf) ?_ ?_
  ·intro ii j t ht
   obtain ⟨q1,q2,v,q3,_⟩:=zat ii j t ht
   simp [Array.getD_eq_getD_getElem?,q3]
  ·intro ii j v ht
   obtain ⟨q1,q2,u,q3,q4⟩:=zat ii j _ ht
   rcases q4 with ⟨u',e1,e2,e3⟩ | ⟨e1,_⟩ | ⟨i',_,_,e1⟩
   ·cases e1;subst e2;exact ⟨by simp [Array.getD_eq_getD_getElem?,q3],e3⟩
   ·cases e1
   ·cases e1
  ·intro ii j ys ht _
   obtain ⟨q1,q2,u,q3,q4⟩:=zat ii j _ ht
   rcases q4 with ⟨u',e1,e2,e3⟩ | ⟨e1,e2,e3⟩ | ⟨i',e1,e2,e3⟩
   ·cases e1
   ·simp [Array.getD_eq_getD_getElem?,q3,e2,Gh.mk2,Hn,mvH,e3]
   ·simp [Array.getD_eq_getD_getElem?,q3,e2,Gh.mk2,Hn,mvH,e1]
  ·intro ii j ys ht _
   obtain ⟨q1,q2,u,q3,q4⟩:=zat ii j _ ht
   rcases q4 with ⟨u',e1,e2,e3⟩ | ⟨e1,e2,e3⟩ | ⟨i',e1,e2,e3⟩
   ·cases e1
   ·cases e1;exact .nil (by simp [Gh.mk2,Hn,mvH,e3])
   ·have hto:=(a8 _ i' (mvAt_mem e1)).2
    refine e3.move rfl (fun c p hc=>?_) fun p=>?_
    ·have hlt:=(hw.rel.lab c _ hc).2
     have hne:¬ (w.heap.size=c):=by omega
     simp only [List.nil_append] at hc
     refine ⟨?_,heap_alloc_old w _ c hlt⟩
     have hdiv:(ii * te.sz+j) / te.sz=ii:=by rw [Nat.add_comm,Nat.add_mul_div_right _ _ hsz,Nat.div_eq_of_lt q2];omega
     have hmod:(ii * te.sz+j) % te.sz=j:=by rw [Nat.add_comm,Nat.add_mul_mod_self_right,Nat.mod_eq_of_lt q2]
     simp [Gh.mk2,hne,hc,mvL,hto,hdiv,hmod]
    ·simp [Gh.mk2,Hn,mvH,e1]
theorem st_buildSlice (tys:TyAll P cx) (h:Rel M B d up s ρ G a w) (hn:∀ n,o.dst=some n→n < a.tmps.size) {t n:Nat} {ps:Array (Nat × Operand)} (ho:o.op=.buildSlice t n ps)
  (hk:stepOp cx fid rid d o oi ⟨s.only R,[],ct,[]⟩=some k') (hd:k'.Done S ρ) (hM:∀ i,ct.i≤i→i < k'.ct.i→¬ M i):Goal P (Mn M ct.i k'.ct.i) B d up ρ a w s o k'.w Q:=by
 have hw:=WOk.start h R ct
 simp only [stepOp,ho,Option.bind_eq_some_iff] at hk
 obtain ⟨ti,hti,te,hte,hk⟩:=hk
 cases hc:(Nat.beq ti.kd 3 && Nat.ble (n * te.sz) 65536 && Nat.blt 0 te.sz) with
 | false=>simp [hc] at hk
 | true =>
  simp only [hc,cond_true,Option.bind_eq_some_iff,Option.some.injEq] at hk
  simp only [Bool.and_eq_true] at hc
  obtain ⟨⟨hc1,hc2⟩,hc3⟩:=hc
  obtain ⟨l,hl,cs,hcs,⟨k1,xs,dp⟩,hab,hk⟩:=hk
  simp only at hk
  have hT:=tys.ty _ _ hti
  have hE:=tys.ty _ _ hte
  obtain ⟨i,z,hi1,hi2,hi3,hi4,hzo⟩:=hE.info
  have hu:=hT.sl (Nat.eq_of_beq_eq_true hc1)
  obtain ⟨hz1,hz2⟩:=zero_rel (G:=G) (w:=w) (ρ:=ρ) hzo
  have hszz:z.cells.size=te.sz:=by
   have:=hz1.length
   rw [hE.zlen] at this
   simpa using this.symm
  have hsz:0 < te.sz:=Nat.lt_of_succ_le (by simpa [Nat.blt] using hc3)
  obtain ⟨arr,g1,g2,g3,g4⟩:=fill_rel (a:=a) hw (fs:=(List.range n).map fun i=>(i * te.sz,te.sz)) (place:=fun i=>some (i * te.sz,te.sz)) (fun f o hf=>by
   rw [List.getElem?_map] at hf
   cases hr:(List.range n)[f]? with
   | none=>simp [hr] at hf
   | some f' =>
    have hlt:=(List.getElem?_eq_some_iff.1 hr).1
    rw [List.getElem?_eq_getElem hlt,List.getElem_range,Option.some.injEq] at hr
    subst hr
    rw [List.getElem?_eq_getElem hlt] at hf
    simpa using hf) ps.toList l (repCe te.zero n) cs (madeCells z.cells (n * z.cells.size)) hl hcs (rep_rel hz1 n) (fun i hi=>by rw [repCe_ids hz2] at hi;cases hi)
  cases hD:(bif cx.fz fid rid oi then none else Wk.absorbD ⟨s.only R,[],ct,[]⟩ (repCe te.zero n) cs) with
  | some r =>
   obtain ⟨kD,xsD⟩:=r
   simp only [Wk.absorb2,hD,Option.some.injEq,Prod.mk.injEq] at hab
   obtain ⟨rfl,rfl,rfl⟩:=hab
   have hD':Wk.absorbD ⟨s.only R,[],ct,[]⟩ (repCe te.zero n) cs=some (kD,xsD):=by
    cases hfz:cx.fz fid rid oi with
    | true=>rw [hfz] at hD;cases hD
    | false=>rw [hfz] at hD;exact hD
   exact buildSliceD tys h hn ho hti hte hu hi1 hi2 hi4 hszz hsz (Nat.le_of_ble_eq_true hc2) hz1 hz2 g1 ⟨g2,g3⟩ (by rw [g4,size_madeCells,hszz]) hD' hk hd hM
  | none =>
  simp only [Wk.absorb2,hD] at hab
  obtain ⟨a1,a2,a3,G2,w2,a4,a5,a6⟩:=absorb_ok hw g2 hab
  generalize hy:k1.em (.lit te.sz (bif dp then (repCe te.zero n).map (fun z=>!isN z) else [])) xs=ky at hk
  obtain ⟨k2,y⟩:=ky
  have hk2e:k2=(k1.em (.lit te.sz (bif dp then (repCe te.zero n).map (fun z=>!isN z) else [])) xs).1:=by rw [hy]
  have hye:y=(k1.em (.lit te.sz (bif dp then (repCe te.zero n).map (fun z=>!isN z) else [])) xs).2:=by rw [hy]
  have hs2:k1.Same k2:=by rw [hk2e];exact Wk.em_same _ _ _
  have hk3:putW d o { k2.set (.o (evN k2.ct.i)) (.ob dp y) with ct:=⟨k2.ct.a,evN k2.ct.i+1⟩ } (.v false [.o (evN k2.ct.i) []])=k':=hk
  have hi0:k2.ct.i=ct.i:=by rw [hs2.i,a1]
  have hd1:(k1.em (.lit te.sz (bif dp then (repCe te.zero n).map (fun z=>!isN z) else [])) xs).1.Done S ρ:=by
   rw [← hk2e]
   rw [← hk3] at hd
   have h2:=putW_done.1 hd
   exact h2
  obtain ⟨hd0,r,hr,hrv⟩:=Wk.em_done hd1
  rw [← hye] at hrv
  obtain ⟨b1,b2,b3⟩:=a6.at
  have harr:arr.size=n * te.sz:=by rw [g4,size_madeCells,hszz]
  have hxl:(xs.map (Lf.ev ρ)).length=n * te.sz:=by rw [List.length_map,b1,Array.length_toList,harr]
  have hlit:r=.l (chunks te.sz n (xs.map (Lf.ev ρ)))∧masked (bif dp then (repCe te.zero n).map (fun z=>!isN z) else []) (xs.map (Lf.ev ρ))=true:=by
   simp only [Prim.ev,hxl,Nat.mul_div_cancel _ hsz,if_pos hsz] at hr
   split at hr
   ·rename_i hm
    exact ⟨(Option.some.inj hr).symm,hm⟩
   ·cases hr
  obtain ⟨rfl,hmask⟩:=hlit
  have hct:k'.ct.i=evN ct.i+1:=by rw [← hk3,putW_i,← hi0]
  have hev:=evN_le ct.i
  let Hn:List (Nat × Nat)→Value:=fun p=>match p with | []=>.slice (some ⟨w.heap.size,0,none⟩) n n | _=>.slice none 0 0
  have hHn:∀ p,∃ a n c,Hn p=.slice a n c:=fun p=>by cases p <;> exact ⟨_,_,_,rfl⟩
  have hrun:(Instr.buildSlice t n (ps.map fun (i,x)=>(i,a.eval x))).run P w=.ok (.slice (some ⟨w.heap.size,0,none⟩) n n) (w.alloc (.cells arr ti.el)):=by
   have hps:(ps.map fun (x:Nat × Operand)=>(x.1,a.eval x.2)).toList=ps.toList.map fun p=>(p.1,a.eval p.2):=by simp
   rw [← hps,← hi2] at g1
   have:=Nat.le_of_ble_eq_true hc2
   exact run_buildSlice hu hi1 hi4 (by rw [hszz,hi2]) (by rw [hi2];omega) (by rw [hi2] at g1 ⊢;rw [← hszz] at g1 ⊢;exact g1)
  have hexec:(execOp a.eval o).run P w=.ok (.value (Hn [])) (w.alloc (.cells arr ti.el)) :=
   by
   unfold execOp
   simp only [ho]
   rw [Sem.run_bind,hrun]
   rfl
  rw [hct,← hk3,← hi0]
  refine Goal.mono (M:=Mn M (evN k2.ct.i) (evN k2.ct.i+1)) ?_ (fun i hi=>hi.imp_right fun hi=>by rw [hi0] at hi ⊢;exact ⟨by omega,hi.2⟩)
  have w3:=w2.same hs2
  refine new_step (nb:=some w.heap.size) (f:=some) (Hn:=Hn) (hHn:=hHn) (w':=w.alloc (.cells arr ti.el)) (k:={ k2 with ct:=⟨k2.ct.a,evN k2.ct.i⟩ }) (W1:=[]) (t:=.l (chunks te.sz n (xs.map (Lf.ev ρ))))
   h (show WOk M B d up ρ G a w { k2 with ct:=⟨k2.ct.a,evN k2.ct.i⟩ } G2 from ⟨w3.rel,w3.keep⟩) hn (hM _ (by show ct.i≤evN k2.ct.i;rw [hi0];exact hev) (by rw [hct];show evN k2.ct.i < _;rw [hi0];omega)) (fun r=>by exact set_W (k:=k2) r) (fun r u hu=>by cases hu) (fun l _=>rfl) (fun l l' ⟨b,hb⟩ he=>by cases he;exact .inl (w2.rel.lab b _ hb).1)
   (fun l l' hq he=>by cases he;exact hq) (fun c hc=>by cases hc;exact .inl rfl) (by simp) (fun c hc=>by cases hc;simp) (fun b hb _=>heap_alloc_old w _ b hb) (so_alloc _ _) rfl hrv ?_ hexec
  have hlen:(chunks te.sz n (xs.map (Lf.ev ρ))).length=n:=chunks_length _ _ _
  have hfree:∀ b,b < w.heap.size→G2.q b=none→(G2.mk2 (some w.heap.size) (evN k2.ct.i) some Hn hHn).q b=none∧(w.alloc (.cells arr ti.el)).heap[b]?=w.heap[b]?:=by
   intro b hb h0
   have hne:some w.heap.size≠some b:=by simp;omega
   exact ⟨mk2_q (fun l l' hq he=>by cases he;exact hq) hne h0,heap_alloc_old w _ b hb⟩
  have zat:∀ (ii j:Nat) (t:T),at2 (chunks te.sz n (xs.map (Lf.ev ρ))) ii j=some t→ii < n∧j < te.sz∧∃ v,arr[ii * te.sz+j]?=some v∧Den G2.q w t v∧(dp=true→∀ ys,t=.l ys→t=.l []∧v=.slice none 0 0):=by
   intro ii j t ht
   obtain ⟨rr,_,hm,hrj,q1,q2⟩:=at2_row ht
   rw [hlen] at q1
   rw [chunks_wd _ _ _ hxl rr hm] at q2
   rw [chunks_get _ _ _ _ _ hxl q1 q2] at ht
   obtain ⟨zc,v,c1,c2,c3,c4⟩:=b3 _ t ht
   refine ⟨q1,q2,v,by simpa using c2,c3,fun hdp ys hys=>?_⟩
   subst hdp
   cases hzn:isN zc with
   | true=>exact c4 rfl hzn
   | false =>
    have:=masked_at _ _ hmask (ii * te.sz+j) t (by simp [c1,hzn]) ht
    subst hys
    simp [scal] at this
  refine .l (wd:=te.sz) (cv:=fun ii j=>arr.getD (ii * te.sz+j) undef) (by rw [hlen];simp [Gh.mk2,Hn]) ⟨by rw [hlen];exact Nat.le_refl _,fun he=>by have:=congrArg List.length he;rw [hlen] at this;simpa using this⟩ (by simp [Gh.mk2]) (heap_alloc_new w _) harr (chunks_wd _ _ _ hxl) ?_ ?_ ?_ ?_ ?_
  ·intro ii j t ht
   obtain ⟨q1,q2,v,q3,_⟩:=zat ii j t ht
   simp [Array.getD_eq_getD_getElem?,q3]
  ·intro ii j v ht
   obtain ⟨q1,q2,u,q3,q4,_⟩:=zat ii j _ ht
   obtain ⟨rfl,hs⟩:=q4.scalar
   exact ⟨by simp [Array.getD_eq_getD_getElem?,q3],hs⟩
  ·intro ii j ys ht hdp
   obtain ⟨q1,q2,u,q3,q4,_⟩:=zat ii j _ ht
   have:=q4.keep (by simp) hfree
   simpa [Array.getD_eq_getD_getElem?,q3] using this
  ·intro ii j ys ht hdp
   obtain ⟨q1,q2,u,q3,q4,q5⟩:=zat ii j _ ht
   obtain ⟨_,rfl⟩:=q5 hdp ys rfl
   simp [Array.getD_eq_getD_getElem?,q3,Gh.mk2,Hn]
  ·intro ii j ys ht hdp
   obtain ⟨q1,q2,u,q3,q4,q5⟩:=zat ii j _ ht
   obtain ⟨e1,rfl⟩:=q5 hdp ys rfl
   cases e1
   exact .nil (by simp [Gh.mk2,Hn])
theorem run_part {t:TypeId} {cs:Array Value} {off:Nat} {v:Value} (ht:(∃ k,P.underlying t=some (.int k))∨P.underlying t=some .bool∨P.underlying t=some .string) (hv:cs[off]?=some v) :
  (part t cs off).run P w=.ok v w:=by
 have hag:(isAgg t).run P w=.ok false w:=by
  rcases ht with ⟨k,ht⟩ | ht | ht <;> simp [isAgg,run_underlying ht]
 simp [part,hag,hv]
def FTy (P:Program) (t:TypeId) (k:Nat):Prop:=(k=1∧∃ i,P.underlying t=some (.int i))∨(k=4∧P.underlying t=some .bool)∨(k=2∧P.underlying t=some .string)
theorem run_eqV {d:Nat} {t:TypeId} {k:Nat} {x y:Value} {b:Bool} (ht:FTy P t k) (h:eqV k x y=some b):(Op.equalIn (d+1) t x y).run P w=.ok b w:=by
 unfold eqV at h
 split at h
 ·rename_i k a k' b'
  obtain ⟨_,i,hu⟩:=ht.resolve_right (by simp)
  split at h
  ·rename_i hk;subst hk;cases h
   exact run_equalIn_int w d t _ _ _ _ hu
  ·cases h
 ·cases h
  have hu:P.underlying t=some .bool:=by rcases ht with ⟨h,_⟩ | ⟨_,h⟩ | ⟨h,_⟩ <;> simp_all
  exact run_equalIn_bool' w d t _ _ hu
 ·cases h
  have hu:P.underlying t=some .string:=by rcases ht with ⟨h,_⟩ | ⟨h,_⟩ | ⟨_,h⟩ <;> simp_all
  rw [run_equalIn_string w d t _ _ hu,← beq_toListBytes]
 ·cases h
theorem eqFs_cons {i:Nat} {z:Ce} {zs:List Ce} {f:Field} {fs:List Field} (h:eqFs P i (z :: zs) (f :: fs)=true):f.offset=i∧f.name≠"_"∧FTy P f.type (kdCe z)∧eqFs P (i+1) zs fs=true:=by
 simp only [eqFs,Bool.and_eq_true,decide_eq_true_eq] at h
 obtain ⟨⟨⟨h1,h2⟩,h3⟩,h4⟩:=h
 refine ⟨Nat.eq_of_beq_eq_true h1,h2,?_,h4⟩
 split at h3
 ·rename_i k hu;exact .inl ⟨Nat.eq_of_beq_eq_true h3,k,hu⟩
 ·rename_i hu;exact .inr (.inl ⟨Nat.eq_of_beq_eq_true h3,hu⟩)
 ·rename_i hu;exact .inr (.inr ⟨Nat.eq_of_beq_eq_true h3,hu⟩)
 ·cases h3
theorem run_eqFields {d:Nat} {xs ys:Array Value}:∀ {fs:List Field} {zs:List Ce} {i:Nat} {us vs:List T} {b:Bool},eqFs P i zs fs=true→eqT (zs.map kdCe) us vs=some b →
  (∀ (j:Nat) (v:Value),us[j]?=some (.c v)→xs[i+j]?=some v)→(∀ (j:Nat) (v:Value),vs[j]?=some (.c v)→ys[i+j]?=some v)→(Op.eqFields (d+1) xs ys fs).run P w=.ok b w
 | [],[],i,[],[],b,_,h,_,_=>by simp [eqT] at h;subst h;rfl
 | [],[],i,[],_ :: _,b,_,h,_,_=>by simp [eqT] at h
 | [],[],i,_ :: _,vs,b,_,h,_,_=>by simp [eqT] at h
 | [],_ :: _,i,us,vs,b,hf,h,_,_=>by simp [eqFs] at hf
 | _ :: _,[],i,us,vs,b,hf,h,_,_=>by simp [eqFs] at hf
 | f :: fs,z :: zs,i,[],vs,b,hf,h,_,_=>by simp [eqT] at h
 | f :: fs,z :: zs,i,.l _ :: us,vs,b,hf,h,_,_=>by simp [eqT] at h
 | f :: fs,z :: zs,i,.c x :: us,[],b,hf,h,_,_=>by simp [eqT] at h
 | f :: fs,z :: zs,i,.c x :: us,.l _ :: vs,b,hf,h,_,_=>by simp [eqT] at h
 | f :: fs,z :: zs,i,.c x :: us,.c y :: vs,b,hf,h,hx,hy=>by
  obtain ⟨h1,h2,h3,h4⟩:=eqFs_cons hf
  simp only [List.map_cons,eqT,Option.bind_eq_some_iff,Option.some.injEq] at h
  obtain ⟨b1,hb1,b2,hb2,rfl⟩:=h
  have ht:(∃ k,P.underlying f.type=some (.int k))∨P.underlying f.type=some .bool∨P.underlying f.type=some .string:=by
   rcases h3 with ⟨_,h⟩ | ⟨_,h⟩ | ⟨_,h⟩
   ·exact .inl h
   ·exact .inr (.inl h)
   ·exact .inr (.inr h)
  have p1:=run_part (P:=P) (w:=w) ht (show xs[f.offset]?=some x by rw [h1];exact hx 0 x rfl)
  have p2:=run_part (P:=P) (w:=w) ht (show ys[f.offset]?=some y by rw [h1];exact hy 0 y rfl)
  have ih:=run_eqFields (d:=d) (xs:=xs) (ys:=ys) h4 hb2 (fun j v hj=>by have:=hx (j+1) v (by simpa using hj);rw [← this];congr 1;omega) (fun j v hj=>by have:=hy (j+1) v (by simpa using hj);rw [← this];congr 1;omega)
  simp only [Op.eqFields,h2,ne_eq,not_false_iff,if_true,Sem.run_bind]
  rw [p1]
  simp only [Result.andThen_ok]
  rw [p2]
  simp only [Result.andThen_ok,run_eqV h3 hb1]
  cases b1
  ·rfl
  ·exact ih
theorem vals_get {cs:List Ce} {k k1:Wk} {xs:List Lf} {G1:Gh} {vs:List Value} (h:k.vals cs=some (k1,xs)) (hd:k1.Done S ρ) (hr:RelCs G1 w ρ cs vs) (hk:WOk M B d up ρ G a w k G1) :
  (xs.map (Lf.ev ρ)).length=cs.length∧∀ (j:Nat) (v:Value),(xs.map (Lf.ev ρ))[j]?=some (.c v)→vs[j]?=some v:=by
 obtain ⟨ts,e1,e2,_,e4⟩:=Wk.vals_done h hd hr hk
 refine ⟨by rw [List.length_map,e4,hr.length],fun j v hj=>?_⟩
 rw [e1] at hj
 have hlt:j < vs.length:=by rw [← e2.length];exact (List.getElem?_eq_some_iff.1 hj).1
 have:=(e2.get j _ vs[j] hj (List.getElem?_eq_getElem hlt)).scalar
 rw [List.getElem?_eq_getElem hlt,this.1]
theorem st_eqs (tys:TyAll P cx) (h:Rel M B d up s ρ G a w) (hn:∀ n,o.dst=some n→n < a.tmps.size) {op:BinOp} {t yt:TypeId} {x y:Operand} (ho:o.op=.binOp op t x y yt)
  {es bs:List Ce} (hcx:opnd d (Wk.get ⟨s.only R,[],ct,[]⟩) x=.v true es) (hcy:opnd d (Wk.get ⟨s.only R,[],ct,[]⟩) y=.v true bs)
  (hk:stepOp cx fid rid d o oi ⟨s.only R,[],ct,[]⟩=some k') (hd:k'.Done S ρ):Goal P M B d up ρ a w s o k'.w Q∧k'.ct.i=ct.i:=by
 have hw:=WOk.start h R ct
 simp only [stepOp,ho,hcx,hcy,Option.bind_eq_some_iff] at hk
 obtain ⟨ti,hti,hk⟩:=hk
 cases hc:(Nat.beq ti.kd 5 && Nat.beq es.length ti.sz) with
 | false=>simp [hc] at hk
 | true =>
  simp only [hc,cond_true,Option.bind_eq_some_iff] at hk
  simp only [Bool.and_eq_true] at hc
  have hT:=tys.ty _ _ hti
  obtain ⟨fs,hu,hfs,hp,hg,hef⟩:=hT.eq (Nat.eq_of_beq_eq_true hc.1)
  have hel:=Nat.eq_of_beq_eq_true hc.2
  obtain ⟨hrx,hmx⟩:=hw.opn x
  obtain ⟨hry,hmy⟩:=hw.opn y
  rw [hcx] at hrx
  rw [hcy] at hry
  obtain ⟨us,hus,hru⟩:=hrx
  obtain ⟨vs,hvs,hrv⟩:=hry
  obtain ⟨⟨k1,r1⟩,hkk,hfin⟩:=hk
  simp only [eqCells,Option.bind_eq_some_iff] at hkk
  obtain ⟨⟨k2,xs⟩,h1,⟨k3,ys⟩,h2,hkk⟩:=hkk
  simp only at hkk
  have hs1:=Wk.vals_same h1
  have hs2:=Wk.vals_same h2
  have hfo:P.fieldsOf t=fs:=by simp [Program.fieldsOf,hu]
  have hgd:∀ op,(eqGuard op t x y (.agg us.toArray) (.agg vs.toArray)).run P w=.ok () w:=fun op=>run_eqGuard_agg w op t x y _ _ hg
  have key:(k3.em (.eqs (ti.zero.map kdCe)) (xs++ys)).1.Done S ρ→∃ b,(k3.em (.eqs (ti.zero.map kdCe)) (xs++ys)).2.evo ρ=some (.c (.bool b))∧(Op.equalIn 10000 t (.agg us.toArray) (.agg vs.toArray)).run P w=.ok b w:=by
   intro hd3
   obtain ⟨hd0,r,hr,hrv'⟩:=Wk.em_done hd3
   obtain ⟨l2,g2⟩:=vals_get h2 hd0 hrv (hw.same hs1)
   obtain ⟨l1,g1⟩:=vals_get h1 (Wk.vals_pre h2 hd0) hru hw
   simp only [Prim.ev,List.map_append,List.length_map] at hr
   have hz:ti.zero.length=(xs.map (Lf.ev ρ)).length:=by rw [l1,hel,hT.zlen]
   rw [hz,List.take_left,List.drop_left] at hr
   obtain ⟨b,hb,hr⟩:=Option.bind_eq_some_iff.1 hr
   cases hr
   refine ⟨b,hrv',?_⟩
   rw [run_equalIn_struct w 9999 t _ _ (by rw [hfo];exact hu) hp,hfo]
   exact run_eqFields (d:=9998) hef hb (fun j v hj=>by simpa using g1 j v hj) (fun j v hj=>by simpa using g2 j v hj)
  have fin:∀ (kk:Wk) (y1:Lf) (b:Bool),putW d o kk (.v false [.p y1])=k'→WOk M B d up ρ G a w kk G→kk.ct.i=ct.i→y1.evo ρ=some (.c (.bool b)) →
    ((do eqGuard op t x y (a.eval x) (a.eval y);binOp op t (a.eval x) (a.eval y):Sem Value)).run P w=.ok (.bool b) w→Goal P M B d up ρ a w s o k'.w Q∧k'.ct.i=ct.i:=by
   intro kk y1 b hp hwk hi hv hr
   subst hp
   refine ⟨value_stepP h hwk hn ?_ (scalar_rel (v:=.bool b) hv rfl) (fun i hi=>by simp [idsSV,idsCs] at hi) Q,by rw [putW_i];exact hi⟩
   unfold execOp
   rw [ho]
   show Sem.run P (do let v ← (do eqGuard op t x y (a.eval x) (a.eval y);binOp op t (a.eval x) (a.eval y):Sem Value);pure (Next.value v)) w=_
   rw [Sem.run_bind,hr];rfl
  have hwk:=((hw.same hs1).same hs2).same (Wk.em_same k3 (.eqs (ti.zero.map kdCe)) (xs++ys))
  have hi0:(k3.em (.eqs (ti.zero.map kdCe)) (xs++ys)).1.ct.i=ct.i:=by rw [(Wk.em_same _ _ _).i,hs2.i,hs1.i]
  have hpd:∀ {kk:Wk} {y1:Lf},putW d o kk (.v false [.p y1])=k'→kk.Done S ρ:=fun hp=>by rw [← hp] at hd;exact putW_done.1 hd
  cases op <;> simp only at hkk <;> try cases hkk
  ·have hp:putW d o (k3.em (.eqs (ti.zero.map kdCe)) (xs++ys)).1 (.v false [.p (k3.em (.eqs (ti.zero.map kdCe)) (xs++ys)).2])=k':=Option.some.inj hfin
   obtain ⟨b,hb,hrun⟩:=key (hpd hp)
   refine fin _ _ b hp hwk hi0 hb ?_
   rw [hus,hvs,Sem.run_bind,hgd]
   simp only [Result.andThen_ok]
   rw [run_eql_struct,hrun];rfl
  ·have hp:putW d o ((k3.em (.eqs (ti.zero.map kdCe)) (xs++ys)).1.em (.un .not) [(k3.em (.eqs (ti.zero.map kdCe)) (xs++ys)).2]).1 (.v false [.p ((k3.em (.eqs (ti.zero.map kdCe)) (xs++ys)).1.em (.un .not) [(k3.em (.eqs (ti.zero.map kdCe)) (xs++ys)).2]).2])=k':=Option.some.inj hfin
   obtain ⟨hd3,r,hr,hrv'⟩:=Wk.em_done (hpd hp)
   obtain ⟨b,hb,hrun⟩:=key hd3
   simp only [List.map_cons,List.map_nil,Lf.evo_ev hb,Prim.ev,T.val,Option.bind_some,unV,Option.some.injEq] at hr
   subst hr
   refine fin _ _ (!b) hp (hwk.same (Wk.em_same _ _ _)) (by rw [(Wk.em_same _ _ _).i];exact hi0) hrv' ?_
   rw [hus,hvs,Sem.run_bind,hgd]
   simp only [Result.andThen_ok]
   rw [run_neq_struct,hrun];rfl
end
def Gh.stored (G:Gh) (id i off n:Nat) (mv:Mv):Gh where
 ω:=fun c=>match G.ω c with
  | some (.o j p)=>if j=id then (match p with
    | []=>some (.o id [])
    | (r,k) :: p=>if r=i∧off≤k∧k < off+n then none else some (.o id ((r,k) :: p)))
   else (match mvOf mv j with
    | some q=>some (.o id ((i,off+q) :: p))
    | none=>some (.o j p))
  | l=>l
 β:=G.β
 H:=fun j p=>if j=id then (match p with
   | []=>G.H id []
   | (r,k) :: p=>if r=i∧off≤k∧k < off+n then (match mvAt mv (k - off) with
     | some j2=>G.H j2 p
     | none=>.slice none 0 0)
    else G.H id ((r,k) :: p))
  else G.H j p
 hs:=fun j p=>by
  by_cases hj:j=id
  ·simp only [hj,if_true]
   cases p with
   | nil=>exact G.hs id []
   | cons x p =>
    obtain ⟨r,k⟩:=x
    by_cases hc:r=i∧off≤k∧k < off+n
    ·simp only [if_pos hc]
     cases mvAt mv (k - off) with
     | none=>exact ⟨_,_,_,rfl⟩
     | some j2=>exact G.hs j2 p
    ·simp only [if_neg hc];exact G.hs id _
  ·simp only [hj,if_false];exact G.hs j p
section
variable {M:Nat→Prop} {B:Base} {d:Nat} {up:Nat→Nat→Value} {ρ:List T} {G:Gh} {a:Act} {w:World} {S:Nat→Sem1} {P:Program}
variable {cx:Cx} {fid rid oi:Nat} {s:St} {R:List Res} {ct:Ct} {k':Wk} {o:Oper} {Q:Exit→Act→World→Prop}
theorem Gh.stored_qt {G:Gh} {id i off n:Nat} {mv:Mv} (hev:id % 4=0) {c:Nat} {l:Lb} (hl:G.ω c=some l) (hq:qt l=true) :
  (G.stored id i off n mv).ω c=none∨∃ l',(G.stored id i off n mv).ω c=some l'∧qt l'=true:=by
 cases l with
 | o j p =>
  simp only [Gh.stored,hl]
  by_cases hj:j=id
  ·subst hj
   rw [if_pos rfl]
   cases p with
   | nil=>exact absurd hq (by rw [qt_top (by omega)];simp)
   | cons x p =>
    obtain ⟨r,k⟩:=x
    simp only
    split
    ·exact .inl rfl
    ·exact .inr ⟨_,rfl,hq⟩
  ·rw [if_neg hj]
   cases mvOf mv j with
   | some q=>exact .inr ⟨_,rfl,qt_o (by omega) (by simp)⟩
   | none=>exact .inr ⟨_,rfl,hq⟩
 | _=>simp [qt] at hq
theorem putD_ev {x ix:Lf} {ms:List Bool} {wd off i:Nat} {xs:List (List T)} {ts:List T} {t:T} (hx:x.evo ρ=some (.l xs)) (hi:stepI ρ ix=some i)
  (h:Prim.ev (.putD ms wd off) (x.ev ρ :: ix.ev ρ :: ts)=some t):∃ r,xs[i]?=some r∧r.length=wd∧off+ts.length≤r.length∧masked ms ts=true∧t=.l (setRow xs i off ts):=by
 obtain ⟨k,hk⟩:=stepI_ev hi
 rw [Lf.evo_ev hx,hk] at h
 simp only [Prim.ev,rowAt_int,T.rows,T.int,Option.bind_some,Int.toNat_natCast] at h
 cases hr:xs[i]? with
 | none=>simp [hr] at h
 | some r =>
  simp only [hr,Option.bind_some] at h
  split at h
  ·rename_i g1
   split at h
   ·rename_i g2
    split at h
    ·rename_i g3
     simp only [Option.some.injEq] at h
     exact ⟨r,rfl,g1,by omega,g3,h.symm⟩
    ·cases h
   ·cases h
  ·cases h
theorem st_storeD (tys:TyAll P cx) (h:Rel M B d up s ρ G a w) (hn:∀ n,o.dst=some n→n < a.tmps.size) {t:Nat} {x y:Operand} (ho:o.op=.store t x y)
  (hk:∃ k1,storeD cx ⟨s.only R,[],ct,[]⟩ t (opnd d (Wk.get ⟨s.only R,[],ct,[]⟩) x) (opnd d (Wk.get ⟨s.only R,[],ct,[]⟩) y)=some k1∧putW d o k1 .un=k') (hd:k'.Done S ρ):Goal P M B d up ρ a w s o k'.w Q∧k'.ct.i=ct.i:=by
 have hw:=WOk.start h R ct
 obtain ⟨k1,hst,rfl⟩:=hk
 have hd1:=putW_done.1 hd
 unfold storeD at hst
 split at hst
 ·rename_i id ix wd off hx
  simp only [Option.bind_eq_some_iff] at hst
  obtain ⟨ti,hti,cs,hcs,hst⟩:=hst
  cases hl:(Nat.beq cs.length ti.sz && ti.zero.any isN && Nat.beq (id % 4) 0) with
  | false=>simp [hl] at hst
  | true =>
   simp only [hl,cond_true] at hst
   simp only [Bool.and_eq_true] at hl
   have hlen:=Nat.eq_of_beq_eq_true hl.1.1
   have hev:id % 4=0:=Nat.eq_of_beq_eq_true hl.2
   split at hst
   ·rename_i x0 hx0
    simp only [Option.bind_eq_some_iff] at hst
    obtain ⟨⟨k2,xs⟩,hab,hst⟩:=hst
    simp only at hst
    split at hst
    ·rename_i x1 hx1
     simp only [Option.some.injEq] at hst
     subst hst
     obtain ⟨hr,hm⟩:=hw.opn y
     obtain ⟨hrx,_⟩:=hw.opn x
     rw [hx] at hrx
     obtain ⟨p,b,n,cap,i,hp,hH,hi,hin,hptr⟩:=hrx
     simp only [pthI_nil,Option.some.injEq] at hp
     subst hp
     unfold cellsOf at hcs
     split at hcs
     ·rename_i ag es0 hop
      cases hcs
      rw [hop] at hr hm
      have hes:=cells_of_val hr
      have hl1:=hes.length
      have hvl:(a.eval y).cells.toList.length=ti.sz:=by rw [← hl1,hlen]
      obtain ⟨a1,a2,a3,a4,mv,W1,a5,a6,a7,a8,a9⟩:=absorbD_ok hw (show Over ⟨s.only R,[],ct,[]⟩ ⟨s.only R,[],ct,[]⟩ [] from ⟨rfl,fun r=>by simp [St.look]⟩) (fun r u h=>by cases h) hes hm hab 0
      rw [List.append_nil] at a5
      have hob:=hw.obj id
      rw [hx0] at hob
      obtain ⟨tt,hzv,hown⟩:=hob
      have hW1:W1.look (.o id)=none:=by
       cases hl:W1.look (.o id) with
       | none=>rfl
       | some u =>
        obtain ⟨_,j,_,rfl,_,_⟩:=a7 _ _ hl
        have:k2.get (.o id)=.un:=by unfold Wk.get;rw [a5.2,hl];simp
        rw [this] at hx1;cases hx1
      have hnid:∀ q j,(q,j)∈mv→j≠id:=by
       intro q j hq he
       subst he
       have:=(a6 q j hq).2.2.1
       rw [hW1] at this;cases this
      have hmid:mvOf mv id=none:=by
       cases hm:mvOf mv id with
       | none=>rfl
       | some q=>exact absurd rfl (hnid q id (mvOf_mem hm))
      obtain ⟨hdk2,t',hput,hyv⟩:=Wk.em_done hd1
      cases hown with
      | nil hnil=>rw [hH] at hnil;cases hnil
      | @l _ _ rows b' wd' cap' arr elem cv g1 g2 g3 g4 g5 g6 g7 g8 g9 g10 g11 =>
       rw [hH] at g1
       cases g1
       simp only [List.map_cons] at hput
       obtain ⟨r,hr1,hr2,hr3,hmask,rfl⟩:=putD_ev hzv hi hput
       have hmv:=a9 mv (fun _ _=>rfl) fun j t ⟨xx,hxx,ht⟩ hzj=>by
        refine masked_at _ _ hmask j t ?_ ?_
        ·cases hzz:ti.zero[j]? with
         | none=>rw [hzz] at hzj;cases hzj
         | some zc=>rw [hzz] at hzj;simp at hzj;simp [hzz,hzj]
        ·rw [List.getElem?_map,hxx];simp [Lf.evo_ev ht]
       obtain ⟨b1,b3⟩:=hmv.at
       have hrw:r.length=wd':=g6 r (List.mem_of_getElem? hr1)
       have hwd:wd=wd':=by rw [← hr2,hrw]
       subst hwd
       have htl:(xs.map (Lf.ev ρ)).length=(a.eval y).cells.toList.length:=by rw [List.length_map,b1]
       have hT:=tys.ty _ _ hti
       have hib:i < rows.length:=(List.getElem?_eq_some_iff.1 hr1).1
       have hfit:i * wd+off+(a.eval y).cells.toList.length≤arr.size:=by
        rw [g5]
        have:(i+1) * wd≤cap * wd:=Nat.mul_le_mul_right _ (by omega)
        rw [Nat.add_mul] at this
        omega
       have hrun:=run_storeAt_in (P:=P) (t:=t) hT (b:=b) (off:=i * wd+off) (v:=a.eval y) (by rw [← hvl];simp) g4 (by simpa using hfit) (fun u hu=>hes.one u hu)
       rw [← hptr] at hrun
       have hexec:=store_exec (P:=P) ho hrun
       generalize harr':(arr.toList.take (i * wd+off)++(a.eval y).cells.toList++arr.toList.drop (i * wd+off+(a.eval y).cells.toList.length)).toArray=arr' at hexec
       have harr2:arr'=setsAt (a.eval y).cells.toList (i * wd+off) arr:=by
        rw [← harr']
        exact Array.ext' (by rw [setsAt_toList _ _ _ hfit])
       have hget:∀ k,arr'[k]?=if i * wd+off≤k∧k < i * wd+off+(a.eval y).cells.toList.length then (a.eval y).cells.toList[k - (i * wd+off)]? else arr[k]?:=fun k=>by rw [harr2];exact setsAt_get _ _ _ _ hfit
       have hMid:M id:=(hw.rel.lab b _ g3).1
       have hin2:∀ i' j' ,i' < rows.length→j' < wd→((i * wd+off≤i' * wd+j'∧i' * wd+j' < i * wd+off+(a.eval y).cells.toList.length)↔(i'=i∧off≤j'∧j' < off+(a.eval y).cells.toList.length)):=by
        intro i' j' hi' hj'
        rw [htl] at hr3
        constructor
        ·rintro ⟨h1,h2⟩
         have hii:i'=i:=by
          rcases Nat.lt_trichotomy i' i with hlt | heq | hgt
          ·have:(i'+1) * wd≤i * wd:=Nat.mul_le_mul_right _ hlt
           rw [Nat.add_mul] at this;omega
          ·exact heq
          ·have:(i+1) * wd≤i' * wd:=Nat.mul_le_mul_right _ hgt
           rw [Nat.add_mul] at this;omega
         subst hii
         exact ⟨rfl,by omega,by omega⟩
        ·rintro ⟨rfl,h1,h2⟩
         omega
       let ts:=xs.map (Lf.ev ρ)
       let G':=G.stored id i off (a.eval y).cells.toList.length mv
       have hK:Keep (keysOf (dstW d o .un++((Res.o id,SV.ob true (k2.em (.putD (ti.zero.map fun z=>!isN z) wd off) (x0 :: ix :: xs)).2) :: W1))) (fun _=>False) G w G' (w.setRow b arr'):=by
        have hkey:∀ j p,¬ keysOf (dstW d o .un++((Res.o id,SV.ob true (k2.em (.putD (ti.zero.map fun z=>!isN z) wd off) (x0 :: ix :: xs)).2) :: W1)) (.o j p)→j≠id∧mvOf mv j=none:=by
         intro j p hj
         constructor
         ·intro e
          subst e
          refine hj ?_
          show St.look _ (Res.o j)≠none
          rw [look_append]
          intro e
          have:=(Option.or_eq_none_iff.1 e).2
          simp [St.look,Res.beq] at this
         ·cases hm:mvOf mv j with
          | none=>rfl
          | some q =>
           exfalso
           refine hj ?_
           show St.look _ (Res.o j)≠none
           rw [look_append]
           intro e
           have h1:=(Option.or_eq_none_iff.1 e).2
           have h2:=(a6 q j (mvOf_mem hm)).2.2.1
           simp only [St.look] at h1
           cases hb:(Res.o id).beq (.o j) with
           | true=>rw [hb] at h1;cases h1
           | false=>rw [hb] at h1;simp only [cond_false] at h1;rw [h2] at h1;cases h1
        refine ⟨by rw [setRow_size];exact Nat.le_refl _,fun c hc h0=>⟨qf_of h0 (fun h1=>by simp [G',Gh.stored,h1]) fun l hl hq=>?_,setRow_other _ _ _ _ fun e=>?_⟩,fun c hc h0=>by simp [G',Gh.stored,h0],fun c l hc hn=>⟨?_,setRow_other _ _ _ _ fun e=>?_⟩,fun j _=>⟨rfl,fun p hp=>?_⟩⟩
        ·exact Gh.stored_qt (by omega) hl hq
        ·subst e;exact qf_lab g3 (qt_top (by omega)) h0
        ·cases l with
         | f=>simp [G',Gh.stored,hc]
         | x j=>simp [G',Gh.stored,hc]
         | o j p=>obtain ⟨h1,h2⟩:=hkey j p hn;simp [G',Gh.stored,hc,h1,h2]
        ·subst e
         rw [g3] at hc
         cases hc
         exact (hkey id [] hn).1 rfl
        ·by_cases hj:j=id
         ·subst hj
          rcases hp with rfl | hp | hp
          ·simp [G',Gh.stored]
          ·omega
          ·exact absurd rfl (hkey j [] (hp [])).1
         ·simp [G',Gh.stored,hj]
       refine ⟨?_,by rw [putW_i];show k2.ct.i=ct.i;rw [a1]⟩
       simp only [Goal,Oper.wp,hexec,Oper.upon]
       have hWk:∀ r',(putW d o ((k2.em (.putD (ti.zero.map fun z=>!isN z) wd off) (x0 :: ix :: xs)).1.set (.o id) (.ob true (k2.em (.putD (ti.zero.map fun z=>!isN z) wd off) (x0 :: ix :: xs)).2)) .un).w.look r' =
         (St.look (dstW d o .un++((Res.o id,SV.ob true (k2.em (.putD (ti.zero.map fun z=>!isN z) wd off) (x0 :: ix :: xs)).2) :: W1)) r').or (St.look (Wk.w ⟨s.only R,[],ct,[]⟩) r'):=by
        refine putW_W (W2:=(Res.o id,SV.ob true (k2.em (.putD (ti.zero.map fun z=>!isN z) wd off) (x0 :: ix :: xs)).2) :: W1) (fun r'=>?_)
        rw [show ((k2.em (.putD (ti.zero.map fun z=>!isN z) wd off) (x0 :: ix :: xs)).1.set (.o id) (.ob true (k2.em (.putD (ti.zero.map fun z=>!isN z) wd off) (x0 :: ix :: xs)).2)).w.look r'=_ from set_W r']
        rw [show (k2.em (.putD (ti.zero.map fun z=>!isN z) wd off) (x0 :: ix :: xs)).1.w.look r'=k2.w.look r' from rfl,a5.2 r',← Option.or_assoc]
        congr 1
        simp only [St.look]
        cases (Res.o id).beq r' <;> simp
       refine ⟨G',mem_step h hw (W2:=dstW d o .un++((Res.o id,SV.ob true (k2.em (.putD (ti.zero.map fun z=>!isN z) wd off) (x0 :: ix :: xs)).2) :: W1)) hWk hK (fun i hi=>hi.elim) (fun i hi=>hi) (fun n hdn=>dst_look hdn) (so_setRow _ _ _) ?_,put_size _ _ _⟩
       have hother:∀ c,c≠b→(w.setRow b arr').heap[c]?=w.heap[c]?:=fun c hc=>setRow_other _ _ _ _ hc
       have hmine:(w.setRow b arr').heap[b]?=some (.cells arr' elem (0,0)):=setRow_heap _ _ _ _ _ _ g4
       have hownN:Own G' (w.setRow b arr') id true [] (.l (setRow rows i off ts)):=by
        have at2s:=fun i' j'=>at2_setRow (xs:=rows) (ts:=ts) hr1 hr3 i' j'
        have hts:ts.length=(a.eval y).cells.toList.length:=htl
        refine .l (wd:=wd) (cv:=fun i' j'=>arr'.getD (i' * wd+j') undef) (by rw [setRow_length];simpa [G',Gh.stored] using hH) ⟨by rw [setRow_length];exact g2.1,fun he=>g2.2 (by have:=congrArg List.length he;rw [setRow_length] at this;exact List.eq_nil_of_length_eq_zero this)⟩ (by simp [G',Gh.stored,g3]) hmine
         (by rw [harr2,setsAt_size];exact g5) (setRow_rows g6 hr1 hr3) ?_ ?_ (fun _ _ _ _ hf=>by cases hf) ?_ ?_
        all_goals
         intro i' j'
         have hbnd:∀ t,at2 (setRow rows i off ts) i' j'=some t→i' < rows.length∧j' < wd:=by
          intro t ht
          obtain ⟨rr,_,hmem,_,q1,q2⟩:=at2_row ht
          rw [setRow_length] at q1
          exact ⟨q1,by rw [← setRow_rows g6 hr1 hr3 rr hmem];exact q2⟩
        ·intro t ht
         obtain ⟨q1,q2⟩:=hbnd t ht
         have hlt:i' * wd+j' < arr'.size:=by
          rw [harr2,setsAt_size,g5]
          exact Nat.lt_of_lt_of_le (mul_lt q1 q2) (Nat.mul_le_mul_right _ g2.1)
         simp [Array.getD_eq_getD_getElem?,hlt]
        ·intro v ht
         obtain ⟨q1,q2⟩:=hbnd _ ht
         rw [at2s] at ht
         rw [Array.getD_eq_getD_getElem?,hget]
         split at ht
         ·rename_i hc
          rw [hts] at hc
          rw [if_pos ((hin2 i' j' q1 q2).2 hc)]
          obtain ⟨u,hu,hcase⟩:=b3 (j' - off) _ ht
          rw [show i' * wd+j' - (i * wd+off)=j' - off by rw [hc.1];omega,hu]
          rcases hcase with ⟨u',e1,e2,e3⟩ | ⟨e1,_⟩ | ⟨_,_,_,e1⟩
          ·cases e1;subst e2;exact ⟨rfl,e3⟩
          ·cases e1
          ·cases e1
         ·rename_i hc
          rw [hts] at hc
          rw [if_neg (fun hh=>hc ((hin2 i' j' q1 q2).1 hh)),g7 i' j' _ ht]
          exact g8 i' j' v ht
        ·intro ys ht _
         obtain ⟨q1,q2⟩:=hbnd _ ht
         rw [at2s] at ht
         rw [Array.getD_eq_getD_getElem?,hget]
         split at ht
         ·rename_i hc
          rw [hts] at hc
          rw [if_pos ((hin2 i' j' q1 q2).2 hc)]
          obtain ⟨u,hu,hcase⟩:=b3 (j' - off) _ ht
          rw [show i' * wd+j' - (i * wd+off)=j' - off by rw [hc.1];omega,hu]
          rw [Nat.zero_add] at hcase
          rcases hcase with ⟨u',e1,_⟩ | ⟨e1,e2,e3⟩ | ⟨i2,e1,e2,_⟩
          ·cases e1
          ·have hc':i'=i∧off≤j'∧j' < off+(a.eval y).cells.size:=by simpa using hc
           simp [G',Gh.stored,hc',e2,e3]
          ·have hc':i'=i∧off≤j'∧j' < off+(a.eval y).cells.size:=by simpa using hc
           simp [G',Gh.stored,hc',e2,e1]
         ·rename_i hc
          rw [hts] at hc
          rw [if_neg (fun hh=>hc ((hin2 i' j' q1 q2).1 hh)),g7 i' j' _ ht]
          have:=g10 i' j' ys ht rfl
          simp only [List.nil_append] at this
          simp only [Option.getD_some,this,List.nil_append]
          show _=(if id=id then _ else _)
          rw [if_pos rfl]
          simp only [if_neg hc]
        ·intro ys ht _
         obtain ⟨q1,q2⟩:=hbnd _ ht
         rw [at2s] at ht
         split at ht
         ·rename_i hc
          rw [hts] at hc
          obtain ⟨u,hu,hcase⟩:=b3 (j' - off) _ ht
          rw [Nat.zero_add] at hcase
          rcases hcase with ⟨u',e1,_⟩ | ⟨e1,e2,e3⟩ | ⟨i2,e1,e2,e3⟩
          ·cases e1
          ·cases e1
           have hc':i'=i∧off≤j'∧j' < off+(a.eval y).cells.size:=by simpa using hc
           exact .nil (by simp [G',Gh.stored,hc',e3])
          ·have hto:=(a8 _ i2 (mvAt_mem e1)).2
           have hne:=hnid _ i2 (mvAt_mem e1)
           refine e3.move rfl (fun c q hc2=>?_) fun q=>?_
           ·simp only [List.nil_append] at hc2
            refine ⟨?_,hother c fun e=>?_⟩
            ·simp only [G',Gh.stored,hc2,if_neg hne,hto]
             rw [hc.1,show off+(j' - off)=j' by omega]
             rfl
            ·subst e;rw [g3] at hc2;cases hc2;exact hne rfl
           ·simp only [G',Gh.stored,List.nil_append,List.cons_append,if_true,if_pos hc,e1]
         ·rename_i hc
          rw [hts] at hc
          have:=g11 i' j' ys ht rfl
          simp only [List.nil_append] at this ⊢
          refine this.move rfl (fun c q hc2=>?_) fun q=>?_
          ·refine ⟨?_,hother c fun e=>?_⟩
           ·simp only [List.cons_append,List.nil_append] at hc2 ⊢
            simp only [G',Gh.stored,hc2,if_true,if_neg hc]
           ·subst e;rw [g3] at hc2;cases hc2
          ·simp only [G',Gh.stored,List.cons_append,List.nil_append,if_true,if_neg hc]
       refine ⟨fun e n u he hl=>?_,fun b u hl=>?_,fun j u hl=>?_,fun r u hl j hj=>?_,fun j hj=>?_,fun c l hc=>?_⟩
       ·rcases look_dst hl with ⟨n',hn',e1,rfl⟩ | hl
        ·trivial
        ·rcases look_cons hl with ⟨e1,_⟩ | hl
         ·cases e1
         ·obtain ⟨_,j,e1,_⟩:=a7 _ _ hl;cases e1
       ·rcases look_dst hl with ⟨n',hn',e1,rfl⟩ | hl
        ·cases e1
        ·rcases look_cons hl with ⟨e1,_⟩ | hl
         ·cases e1
         ·obtain ⟨_,j,e1,_⟩:=a7 _ _ hl;cases e1
       ·rcases look_dst hl with ⟨n',hn',e1,rfl⟩ | hl
        ·cases e1
        ·rcases look_cons hl with ⟨e1,rfl⟩ | hl
         ·cases e1;exact ⟨_,hyv,hownN⟩
         ·obtain ⟨_,j',e1,rfl,_⟩:=a7 _ _ hl;trivial
       ·rcases look_dst hl with ⟨n',hn',e1,rfl⟩ | hl
        ·simp [idsSV] at hj
        ·rcases look_cons hl with ⟨e1,rfl⟩ | hl
         ·simp [idsSV] at hj
         ·obtain ⟨_,j',e1,rfl,_⟩:=a7 _ _ hl;simp [idsSV] at hj
       ·have:∀ r:Res,(r=.x j∨r=.o j)→St.look (dstW d o .un++((Res.o id,SV.ob true (k2.em (.putD (ti.zero.map fun z=>!isN z) wd off) (x0 :: ix :: xs)).2) :: W1)) r≠none→M j:=by
         intro r hr hl
         obtain ⟨u,hu⟩:=Option.ne_none_iff_exists'.1 hl
         rcases look_dst hu with ⟨n',hn',e1,rfl⟩ | hl
         ·rcases hr with rfl | rfl <;> cases e1
         ·rcases look_cons hl with ⟨e1,_⟩ | hl
          ·rcases hr with rfl | rfl
           ·cases e1
           ·cases e1;exact hMid
          ·obtain ⟨_,j',e1,_,hm,_⟩:=a7 _ _ hl
           rcases hr with rfl | rfl
           ·cases e1
           ·cases e1;exact hm
        rcases hj with hj | hj
        ·exact this _ (.inl rfl) hj
        ·exact this _ (.inr rfl) hj
       ·rw [setRow_size]
        cases hgc:G.ω c with
        | none=>simp [G',Gh.stored,hgc] at hc
        | some l' =>
         have hl':=hw.rel.lab c l' hgc
         refine ⟨?_,hl'.2⟩
         cases l' with
         | f=>simp [G',Gh.stored,hgc] at hc;subst hc;exact hl'.1
         | x j=>simp [G',Gh.stored,hgc] at hc;subst hc;exact hl'.1
         | o j p =>
          simp only [G',Gh.stored,hgc] at hc
          split at hc
          ·rename_i hj
           subst hj
           split at hc
           ·cases hc;exact hMid
           ·split at hc
            ·cases hc
            ·cases hc;exact hMid
          ·split at hc
           ·cases hc;exact hMid
           ·cases hc;exact hl'.1
     ·cases hcs
    ·cases hst
   ·cases hst
 ·cases hst
end
end Go.Proofs.YtbhplkilhknciaaDoorC

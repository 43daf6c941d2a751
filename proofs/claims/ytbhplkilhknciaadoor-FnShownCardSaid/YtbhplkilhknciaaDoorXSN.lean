/- Routes to things, by both programs. Conditions: none. -/
import Derived.Test.YtbhplkilhknciaaDoorXSM
namespace Go.Proofs.YtbhplkilhknciaaDoorC
open Int (reduceLE reduceLT reduceEq reduceGT reduceGE reduceAdd reduceSub reduceMul reduceNeg)
set_option linter.unusedVariables false
set_option linter.unusedSimpArgs false
theorem wayO_find (l:List Way) (v:Int):wayO l v=l.find? fun w=>w.to == v:=by
 cases h:l.find? (fun w=>w.to == v) with
 | none =>
  cases h':wayO l v with
  | none=>rfl
  | some w =>
   have:=wayO_some h'
   have h2:=List.find?_eq_none.1 h w this.1
   simp [this.2] at h2
 | some w =>
  unfold wayO wayP
  have h0:0≤findP (fun w:Way=>w.to == v) l:=by
   rcases Int.lt_or_le (findP (fun w:Way=>w.to == v) l) 0 with h1 | h1
   ·have:=(findP_none _ _).1 h1 w (List.mem_of_find?_eq_some h)
    have h2:=List.find?_some h
    rw [this] at h2;cases h2
   ·exact h1
  rw [if_neg (by omega)]
  unfold findP at h0 ⊢
  cases h':l.findIdx? (fun w:Way=>w.to == v) with
  | none=>rw [h'] at h0;exact absurd h0 (by decide)
  | some i =>
   obtain ⟨h1,h2,h3⟩:=List.findIdx?_eq_some_iff_getElem.1 h'
   show some (gt l (i:Int))=some w
   rw [gt_elem h1]
   obtain ⟨e,as,bs,e1,e2⟩:=List.find?_eq_some_iff_append.1 h
   subst e1
   congr 1
   rcases Nat.lt_trichotomy i as.length with h4 | h4 | h4
   ·have h5:=e2 as[i] (List.getElem_mem h4)
    rw [List.getElem_append_left h4] at h2
    rw [h2] at h5;cases h5
   ·subst h4;simp
   ·have h5:=h3 as.length h4
    simp at h5 e
    exact absurd e h5
theorem wayO_append (a b:List Way) (v:Int):wayO (a++b) v=(wayO a v).or (wayO b v):=by
 rw [wayO_find,wayO_find,wayO_find,List.find?_append]
def WaysG (W:List Way):Prop:=W.length≤1000∧∀ w∈W,HopsOk w.hops∧0≤w.cost∧w.cost≤100000
theorem WaysG.app {a b:List Way} (ha:a.length≤100) (hb:b.length≤100) (h:WaysG a) (h':WaysG b):WaysG (a++b) :=
 ⟨by simp;omega,fun w hw=>(List.mem_append.1 hw).elim (h.2 w) (h'.2 w)⟩
def ownW (W:List Way) (fr:Int) (x:Rcd):Option Way:=if x.owner=fr then some wz else wayO W x.owner
theorem ownW_ok {W:List Way} (hW:WaysG W) {fr:Int} {x:Rcd} {w:Way} (h:ownW W fr x=some w):HopsOk w.hops∧0≤w.cost∧w.cost≤100000:=by
 unfold ownW at h
 split at h
 ·cases h;exact ⟨hops_nil,by decide,by decide⟩
 ·exact hW.2 w (wayO_some h).1
def thC (W:List Way) (key fr:Int) (x:Rcd):Option Way:=if x.kind=3∧x.key=key∧x.cost < 60000 then ownW W fr x else none
theorem thC_some {W:List Way} {key fr:Int} {x:Rcd} {w:Way} (h:thC W key fr x=some w):(x.kind=3∧x.key=key∧x.cost < 60000)∧ownW W fr x=some w:=by
 unfold thC at h
 split at h
 ·rename_i hc;exact ⟨hc,h⟩
 ·cases h
def far1 (f:Option (Int × Way)) (c:Int) (w:Way):Option (Int × Way) :=
 match f with
 | none=>some (c,w)
 | some (l,b)=>if c=l then some (l,tog b w) else if c < l then some (c,w) else some (l,b)
def stepN (W:List Way) (key fr:Int) (o:Option Way) (x:Rcd):Option Way:=if x.far=true then o else match thC W key fr x with | none=>o | some w=>tog1 o ⟨key,w.cost+x.cost,w.hops⟩
def stepF (W:List Way) (key fr:Int) (f:Option (Int × Way)) (x:Rcd):Option (Int × Way):=if x.far=true then match thC W key fr x with | none=>f | some w=>far1 f x.cost ⟨key,w.cost,w.hops⟩ else f
def fW (f:Option (Int × Way)):Way:=(f.getD (0,wz)).2
def fL (f:Option (Int × Way)):Int:=(f.getD (0,wz)).1
theorem fW_some (c:Int) (w:Way):fW (some (c,w))=w:=rfl
theorem fL_some (c:Int) (w:Way):fL (some (c,w))=c:=rfl
def OkO (o:Option Way):Prop:=∀ b,o=some b→HopsOk b.hops
def OkF (f:Option (Int × Way)):Prop:=∀ c b,f=some (c,b)→HopsOk b.hops
theorem tog1_okO {o:Option Way} (ho:OkO o) {w:Way} (hw:HopsOk w.hops):OkO (tog1 o w) :=
 tog1s_ok (l:=[w]) ho (by intro y hy;rw [List.mem_singleton] at hy;subst hy;exact hw)
theorem far1_ok {f:Option (Int × Way)} (hf:OkF f) {c:Int} {w:Way} (hw:HopsOk w.hops):OkF (far1 f c w):=by
 intro d b e
 unfold far1 at e
 split at e
 ·cases e;exact hw
 ·rename_i l b0
  split at e
  ·cases e;exact tog_ok (hf _ _ rfl) hw
  ·split at e
   ·cases e;exact hw
   ·cases e;exact hf _ _ rfl
theorem stepN_ok {W:List Way} (hW:WaysG W) {key fr:Int} {o:Option Way} (ho:OkO o) (x:Rcd):OkO (stepN W key fr o x):=by
 unfold stepN
 split
 ·exact ho
 ·split
  ·exact ho
  ·rename_i w hw
   exact tog1_okO ho (ownW_ok hW (thC_some hw).2).1
theorem stepF_ok {W:List Way} (hW:WaysG W) {key fr:Int} {f:Option (Int × Way)} (hf:OkF f) (x:Rcd):OkF (stepF W key fr f x):=by
 unfold stepF
 split
 ·split
  ·exact hf
  ·rename_i w hw
   exact far1_ok hf (ownW_ok hW (thC_some hw).2).1
 ·exact hf
def nearB (s:List Rcd) (W:List Way) (key fr:Int):Option Way:=s.foldl (stepN W key fr) none
def farB (s:List Rcd) (W:List Way) (key fr:Int):Option (Int × Way):=s.foldl (stepF W key fr) none
def thingR (s:List Rcd) (W:List Way) (key fr:Int):Option Route :=
 match nearB s W key fr with
 | some b=>some ⟨true,key,3,b.cost,0,b.hops⟩
 | none=>match farB s W key fr with
  | some (l,b)=>some ⟨true,key,4,b.cost,l,b.hops⟩
  | none=>none
theorem e_s_l07Owner (a b:List Way) (ow fr:Int) (ha:a.length≤100) (hb:b.length≤100) (h:∀ w∈a,w.hops.length≤1048576) (h':∀ w∈b,w.hops.length≤1048576) :
  F_s_l07Owner [.l (a.map eWay),.l (b.map eWay),ii ow,ii fr]=some (if ow=fr then [ii ow,ii 0,.l [],bb true] else match wayO (a++b) ow with | none=>[ii 0,ii 0,.l [],bb false] | some w=>eWay w++[bb true]):=by
 have h1:=e_s_WayTo a ow (by omega) h
 have h2:=e_s_WayTo b ow (by omega) h'
 rw [g_s_l07Owner,wayO_append]
 by_cases k:ow=fr
 ·simp (disch:=omega) only [↓pq,↓pj,ps,pz,↓reduceIte,reduceLE,reduceLT,reduceEq,reduceGT,reduceGE,reduceAdd,reduceSub,reduceMul,reduceNeg,G_s_l07Owner,k]
 ·by_cases p1:wayP a ow < 0
  ·have o1:wayO a ow=none:=by unfold wayO;rw [if_pos p1]
   rw [if_pos p1] at h1
   rw [o1,Option.none_or]
   by_cases p2:wayP b ow < 0
   ·have o2:wayO b ow=none:=by unfold wayO;rw [if_pos p2]
    rw [if_pos p2] at h2
    rw [o2]
    simp (disch:=omega) only [↓pq,↓pj,ps,pz,↓reduceIte,reduceLE,reduceLT,reduceEq,reduceGT,reduceGE,reduceAdd,reduceSub,reduceMul,reduceNeg,G_s_l07Owner,k,h1,h2,Bool.false_eq_true]
   ·have o2:wayO b ow=some (gt b (wayP b ow)):=by unfold wayO;rw [if_neg p2]
    rw [if_neg p2] at h2
    rw [o2]
    simp only [eWay,List.cons_append,List.nil_append] at h2 ⊢
    simp (disch:=omega) only [↓pq,↓pj,ps,pz,↓reduceIte,reduceLE,reduceLT,reduceEq,reduceGT,reduceGE,reduceAdd,reduceSub,reduceMul,reduceNeg,G_s_l07Owner,k,h1,h2,Bool.false_eq_true]
  ·have o1:wayO a ow=some (gt a (wayP a ow)):=by unfold wayO;rw [if_neg p1]
   rw [if_neg p1] at h1
   rw [o1,Option.some_or]
   simp only [eWay,List.cons_append,List.nil_append] at h1 ⊢
   simp (disch:=omega) only [↓pq,↓pj,ps,pz,↓reduceIte,reduceLE,reduceLT,reduceEq,reduceGT,reduceGE,reduceAdd,reduceSub,reduceMul,reduceNeg,G_s_l07Owner,k,h1,Bool.false_eq_true]
theorem es_thing_near (s:List Rcd) (a b:List Way) (key fr:Int) (h:s.length≤1048576) (hs:storeOk s=true) (ha:a.length≤100) (hb:b.length≤100) (hA:WaysG a) (hB:WaysG b) :
  F_s_l07Thing [.l (s.map eRcd),.l (a.map eWay),.l (b.map eWay),ii key,ii fr,bb false]=(fun f:Option Way=>some [bb true,ii key,ii 3,ii (oW f).cost,ii 0,.l ((oW f).hops.map eInt),bb f.isSome]) (nearB s (a++b) key fr):=by
 have hW:WaysG (a++b):=WaysG.app ha hb hA hB
 rw [g_s_l07Thing];simp (disch:=omega) only [↓pq,↓pj,ps,pz,↓reduceIte,reduceLE,reduceLT,reduceEq,reduceGT,reduceGE,reduceAdd,reduceSub,reduceMul,reduceNeg,G_s_l07Thing_l0,G_s_l07Thing]
 refine iter_foldlx s (fun j (f:Option Way)=>[bb f.isSome,ii j,ii 3,ii (oW f).cost,ii 0,.l ((oW f).hops.map eInt)]) (stepN (a++b) key fr) (fun f:Option Way=>some [bb true,ii key,ii 3,ii (oW f).cost,ii 0,.l ((oW f).hops.map eInt),bb f.isSome]) none (fun _ f=>OkO f) rfl (rounds_lt h) (by intro b hb;(cases hb)) ?_ ?_
 ·intro j f hj hf
  have hm:=gt_mem (l:=s) (n:=(j:Int)) (by omega) hj
  have hc:=rec_cost hs hm
  refine ⟨stepN_ok hW hf _,fun q=>?_⟩
  have hT:=e_s_l07Owner a b (gt s j).owner fr ha hb (fun w hw=>by have:=hops_len (hA.2 w hw).1;omega) (fun w hw=>by have:=hops_len (hB.2 w hw).1;omega)
  have hnone:thC (a++b) key fr (gt s j)=none→stepN (a++b) key fr f (gt s j)=f:=by
   intro e;unfold stepN;rw [e];simp
  by_cases k1:(gt s j).kind=3∧(gt s j).key=key∧(gt s j).cost < 60000
  rotate_left
  ·rw [hnone (by unfold thC;rw [if_neg k1])]
   by_cases a1:(gt s j).kind=3
   ·by_cases a2:(gt s j).key=key
    ·have a3:(gt s j).cost ≥ 60000:=by
      rcases Int.lt_or_le (gt s j).cost 60000 with h | h
      ·exact absurd ⟨a1,a2,h⟩ k1
      ·exact h
     cases hfar:(gt s j).far with
     | true=>simp (disch:=omega) only [↓pq,↓pj,ps,pz,↓reduceIte,reduceLE,reduceLT,reduceEq,reduceGT,reduceGE,reduceAdd,reduceSub,reduceMul,reduceNeg,G_s_l07Thing_l0,hj,a1,a2,a3,hfar,Bool.false_eq_true,Bool.true_eq_false,eq_iff_iff,true_iff,false_iff]
     | false=>simp (disch:=omega) only [↓pq,↓pj,ps,pz,↓reduceIte,reduceLE,reduceLT,reduceEq,reduceGT,reduceGE,reduceAdd,reduceSub,reduceMul,reduceNeg,G_s_l07Thing_l0,hj,a1,a2,a3,hfar,Bool.false_eq_true,Bool.true_eq_false,eq_iff_iff,true_iff,false_iff]
    ·simp (disch:=omega) only [↓pq,↓pj,ps,pz,↓reduceIte,reduceLE,reduceLT,reduceEq,reduceGT,reduceGE,reduceAdd,reduceSub,reduceMul,reduceNeg,G_s_l07Thing_l0,hj,a1,a2]
   ·simp (disch:=omega) only [↓pq,↓pj,ps,pz,↓reduceIte,reduceLE,reduceLT,reduceEq,reduceGT,reduceGE,reduceAdd,reduceSub,reduceMul,reduceNeg,G_s_l07Thing_l0,hj,a1]
  obtain ⟨a1,a2,a3⟩:=k1
  have a3':¬ (gt s j).cost ≥ 60000:=by omega
  have hth:thC (a++b) key fr (gt s j)=ownW (a++b) fr (gt s j):=by unfold thC;rw [if_pos ⟨a1,a2,a3⟩]
  cases hfar:(gt s j).far with
  | true =>
   have e1:stepN (a++b) key fr f (gt s j)=f:=by unfold stepN;rw [hfar];rfl
   rw [e1]
   simp (disch:=omega) only [↓pq,↓pj,ps,pz,↓reduceIte,reduceLE,reduceLT,reduceEq,reduceGT,reduceGE,reduceAdd,reduceSub,reduceMul,reduceNeg,G_s_l07Thing_l0,hj,a1,a2,hfar,Bool.false_eq_true,Bool.true_eq_false,eq_iff_iff,true_iff,false_iff]
  | false =>
  by_cases hfr:(gt s j).owner=fr
  ·have hO:ownW (a++b) fr (gt s j)=some wz:=by unfold ownW;rw [if_pos hfr]
   rw [if_pos hfr] at hT
   rw [hfr] at hT
   have hu0:F_s_l06Add [.l [],.l []]=some [.l []]:=by
    have:=e_s_l06Add [] [] (by simp) (by simp)
    rw [uni_nil hops_nil] at this;exact this
   have e1:stepN (a++b) key fr f (gt s j)=tog1 f ⟨key,0+(gt s j).cost,[]⟩:=by unfold stepN;rw [hfar,hth,hO];rfl
   rw [e1]
   rw [Int.zero_add]
   cases f with
   | none=>simp (disch:=omega) only [↓pq,↓pj,ps,pz,↓reduceIte,reduceLE,reduceLT,reduceEq,reduceGT,reduceGE,reduceAdd,reduceSub,reduceMul,reduceNeg,G_s_l07Thing_l0,hj,a1,a2,a3',hfar,hfr,List.map_nil,hT,hu0,Int.zero_add,Bool.false_eq_true,Bool.true_eq_false,eq_iff_iff,true_iff,false_iff,Option.isSome_none];rfl
   | some b0 =>
    have hl2:=hops_len (hf b0 rfl)
    have hu1:F_s_l06Add [.l (b0.hops.map eInt),.l []]=some [.l ((uni b0.hops []).map eInt)]:=e_s_l06Add b0.hops [] (by omega) (by first | omega | simp)
    unfold tog1 tog
    simp only []
    by_cases q1:((gt s j).cost) > b0.cost
    ·have q2:¬ ((gt s j).cost) < b0.cost:=by omega
     have q3:¬ ((gt s j).cost)=b0.cost:=by omega
     simp only [q1,if_true]
     simp (disch:=omega) only [↓pq,↓pj,ps,pz,↓reduceIte,reduceLE,reduceLT,reduceEq,reduceGT,reduceGE,reduceAdd,reduceSub,reduceMul,reduceNeg,G_s_l07Thing_l0,hj,a1,a2,a3',hfar,hfr,List.map_nil,hT,hu0,Int.zero_add,Bool.false_eq_true,Bool.true_eq_false,eq_iff_iff,true_iff,false_iff,Option.isSome_some,oW_some,q2,q3]
    ·simp only [q1,if_false]
     by_cases q2:b0.cost > ((gt s j).cost)
     ·have q3:((gt s j).cost) < b0.cost:=by omega
      simp only [q2,if_true]
      simp (disch:=omega) only [↓pq,↓pj,ps,pz,↓reduceIte,reduceLE,reduceLT,reduceEq,reduceGT,reduceGE,reduceAdd,reduceSub,reduceMul,reduceNeg,G_s_l07Thing_l0,hj,a1,a2,a3',hfar,hfr,List.map_nil,hT,hu0,Int.zero_add,Bool.false_eq_true,Bool.true_eq_false,eq_iff_iff,true_iff,false_iff,Option.isSome_some,oW_some,q3]
     ·have q3:¬ ((gt s j).cost) < b0.cost:=by omega
      have q4:((gt s j).cost)=b0.cost:=by omega
      simp only [q2,if_false]
      simp (disch:=omega) only [↓pq,↓pj,ps,pz,↓reduceIte,reduceLE,reduceLT,reduceEq,reduceGT,reduceGE,reduceAdd,reduceSub,reduceMul,reduceNeg,G_s_l07Thing_l0,hj,a1,a2,a3',hfar,hfr,List.map_nil,hT,hu0,Int.zero_add,Bool.false_eq_true,Bool.true_eq_false,eq_iff_iff,true_iff,false_iff,Option.isSome_some,oW_some,q3,q4,hu1,show ¬ b0.cost ≥ 60000 by omega]
  cases hO:wayO (a++b) (gt s j).owner with
  | none =>
   have hO':ownW (a++b) fr (gt s j)=none:=by unfold ownW;rw [if_neg hfr,hO]
   rw [hnone (by rw [hth,hO'])]
   rw [if_neg hfr,hO] at hT
   simp (disch:=omega) only [↓pq,↓pj,ps,pz,↓reduceIte,reduceLE,reduceLT,reduceEq,reduceGT,reduceGE,reduceAdd,reduceSub,reduceMul,reduceNeg,G_s_l07Thing_l0,hj,a1,a2,a3',hfar,hT,Bool.false_eq_true]
  | some w =>
   have hO':ownW (a++b) fr (gt s j)=some w:=by unfold ownW;rw [if_neg hfr,hO]
   have hw:=ownW_ok hW hO'
   have hl1:=hops_len hw.1
   rw [if_neg hfr,hO] at hT
   simp only [eWay,List.cons_append,List.nil_append] at hT
   have hu0:F_s_l06Add [.l [],.l (w.hops.map eInt)]=some [.l (w.hops.map eInt)]:=by
    have:=e_s_l06Add [] w.hops (by simp) (by omega)
    rw [uni_nil hw.1] at this;exact this
   have e1:stepN (a++b) key fr f (gt s j)=tog1 f ⟨key,w.cost+(gt s j).cost,w.hops⟩:=by unfold stepN;rw [hfar,hth,hO'];rfl
   rw [e1]
   cases f with
   | none=>simp (disch:=omega) only [↓pq,↓pj,ps,pz,↓reduceIte,reduceLE,reduceLT,reduceEq,reduceGT,reduceGE,reduceAdd,reduceSub,reduceMul,reduceNeg,G_s_l07Thing_l0,hj,a1,a2,a3',hfar,hT,hu0,Int.zero_add,Bool.false_eq_true,Bool.true_eq_false,eq_iff_iff,true_iff,false_iff,Option.isSome_none];rfl
   | some b0 =>
    have hl2:=hops_len (hf b0 rfl)
    have hu1:F_s_l06Add [.l (b0.hops.map eInt),.l (w.hops.map eInt)]=some [.l ((uni b0.hops w.hops).map eInt)]:=e_s_l06Add b0.hops w.hops (by omega) (by first | omega | simp)
    unfold tog1 tog
    simp only []
    by_cases q1:(w.cost+(gt s j).cost) > b0.cost
    ·have q2:¬ (w.cost+(gt s j).cost) < b0.cost:=by omega
     have q3:¬ (w.cost+(gt s j).cost)=b0.cost:=by omega
     simp only [q1,if_true]
     simp (disch:=omega) only [↓pq,↓pj,ps,pz,↓reduceIte,reduceLE,reduceLT,reduceEq,reduceGT,reduceGE,reduceAdd,reduceSub,reduceMul,reduceNeg,G_s_l07Thing_l0,hj,a1,a2,a3',hfar,hT,hu0,Int.zero_add,Bool.false_eq_true,Bool.true_eq_false,eq_iff_iff,true_iff,false_iff,Option.isSome_some,oW_some,q2,q3]
    ·simp only [q1,if_false]
     by_cases q2:b0.cost > (w.cost+(gt s j).cost)
     ·have q3:(w.cost+(gt s j).cost) < b0.cost:=by omega
      simp only [q2,if_true]
      simp (disch:=omega) only [↓pq,↓pj,ps,pz,↓reduceIte,reduceLE,reduceLT,reduceEq,reduceGT,reduceGE,reduceAdd,reduceSub,reduceMul,reduceNeg,G_s_l07Thing_l0,hj,a1,a2,a3',hfar,hT,hu0,Int.zero_add,Bool.false_eq_true,Bool.true_eq_false,eq_iff_iff,true_iff,false_iff,Option.isSome_some,oW_some,q3]
     ·have q3:¬ (w.cost+(gt s j).cost) < b0.cost:=by omega
      have q4:(w.cost+(gt s j).cost)=b0.cost:=by omega
      simp only [q2,if_false]
      simp (disch:=omega) only [↓pq,↓pj,ps,pz,↓reduceIte,reduceLE,reduceLT,reduceEq,reduceGT,reduceGE,reduceAdd,reduceSub,reduceMul,reduceNeg,G_s_l07Thing_l0,hj,a1,a2,a3',hfar,hT,hu0,Int.zero_add,Bool.false_eq_true,Bool.true_eq_false,eq_iff_iff,true_iff,false_iff,Option.isSome_some,oW_some,q3,q4,hu1]
 ·intro f q hf
  cases f with
  | none=>simp (disch:=omega) only [↓pq,↓pj,ps,pz,↓reduceIte,reduceLE,reduceLT,reduceEq,reduceGT,reduceGE,reduceAdd,reduceSub,reduceMul,reduceNeg,G_s_l07Thing_l0,Option.isSome_none,Bool.false_eq_true]
  | some x=>simp (disch:=omega) only [↓pq,↓pj,ps,pz,↓reduceIte,reduceLE,reduceLT,reduceEq,reduceGT,reduceGE,reduceAdd,reduceSub,reduceMul,reduceNeg,G_s_l07Thing_l0,Option.isSome_some]
theorem es_thing_far (s:List Rcd) (a b:List Way) (key fr:Int) (h:s.length≤1048576) (hs:storeOk s=true) (ha:a.length≤100) (hb:b.length≤100) (hA:WaysG a) (hB:WaysG b) :
  F_s_l07Thing [.l (s.map eRcd),.l (a.map eWay),.l (b.map eWay),ii key,ii fr,bb true]=(fun f:Option (Int × Way)=>some [bb true,ii key,ii (if f.isSome=true then 4 else 3),ii (fW f).cost,ii (fL f),.l ((fW f).hops.map eInt),bb f.isSome]) (farB s (a++b) key fr):=by
 have hW:WaysG (a++b):=WaysG.app ha hb hA hB
 rw [g_s_l07Thing];simp (disch:=omega) only [↓pq,↓pj,ps,pz,↓reduceIte,reduceLE,reduceLT,reduceEq,reduceGT,reduceGE,reduceAdd,reduceSub,reduceMul,reduceNeg,G_s_l07Thing_l0,G_s_l07Thing]
 refine iter_foldlx s (fun j (f:Option (Int × Way))=>[bb f.isSome,ii j,ii (if f.isSome=true then 4 else 3),ii (fW f).cost,ii (fL f),.l ((fW f).hops.map eInt)]) (stepF (a++b) key fr) (fun f:Option (Int × Way)=>some [bb true,ii key,ii (if f.isSome=true then 4 else 3),ii (fW f).cost,ii (fL f),.l ((fW f).hops.map eInt),bb f.isSome]) none (fun _ f=>OkF f) rfl (rounds_lt h) (by intro c b hb;(cases hb)) ?_ ?_
 ·intro j f hj hf
  have hm:=gt_mem (l:=s) (n:=(j:Int)) (by omega) hj
  have hc:=rec_cost hs hm
  refine ⟨stepF_ok hW hf _,fun q=>?_⟩
  have hT:=e_s_l07Owner a b (gt s j).owner fr ha hb (fun w hw=>by have:=hops_len (hA.2 w hw).1;omega) (fun w hw=>by have:=hops_len (hB.2 w hw).1;omega)
  have hnone:thC (a++b) key fr (gt s j)=none→stepF (a++b) key fr f (gt s j)=f:=by
   intro e;unfold stepF;rw [e];simp
  by_cases k1:(gt s j).kind=3∧(gt s j).key=key∧(gt s j).cost < 60000
  rotate_left
  ·rw [hnone (by unfold thC;rw [if_neg k1])]
   by_cases a1:(gt s j).kind=3
   ·by_cases a2:(gt s j).key=key
    ·have a3:(gt s j).cost ≥ 60000:=by
      rcases Int.lt_or_le (gt s j).cost 60000 with h | h
      ·exact absurd ⟨a1,a2,h⟩ k1
      ·exact h
     cases hfar:(gt s j).far with
     | true=>simp (disch:=omega) only [↓pq,↓pj,ps,pz,↓reduceIte,reduceLE,reduceLT,reduceEq,reduceGT,reduceGE,reduceAdd,reduceSub,reduceMul,reduceNeg,G_s_l07Thing_l0,hj,a1,a2,a3,hfar,Bool.false_eq_true,Bool.true_eq_false,eq_iff_iff,true_iff,false_iff]
     | false=>simp (disch:=omega) only [↓pq,↓pj,ps,pz,↓reduceIte,reduceLE,reduceLT,reduceEq,reduceGT,reduceGE,reduceAdd,reduceSub,reduceMul,reduceNeg,G_s_l07Thing_l0,hj,a1,a2,a3,hfar,Bool.false_eq_true,Bool.true_eq_false,eq_iff_iff,true_iff,false_iff]
    ·simp (disch:=omega) only [↓pq,↓pj,ps,pz,↓reduceIte,reduceLE,reduceLT,reduceEq,reduceGT,reduceGE,reduceAdd,reduceSub,reduceMul,reduceNeg,G_s_l07Thing_l0,hj,a1,a2]
   ·simp (disch:=omega) only [↓pq,↓pj,ps,pz,↓reduceIte,reduceLE,reduceLT,reduceEq,reduceGT,reduceGE,reduceAdd,reduceSub,reduceMul,reduceNeg,G_s_l07Thing_l0,hj,a1]
  obtain ⟨a1,a2,a3⟩:=k1
  have a3':¬ (gt s j).cost ≥ 60000:=by omega
  have hth:thC (a++b) key fr (gt s j)=ownW (a++b) fr (gt s j):=by unfold thC;rw [if_pos ⟨a1,a2,a3⟩]
  cases hfar:(gt s j).far with
  | false =>
   have e1:stepF (a++b) key fr f (gt s j)=f:=by unfold stepF;rw [hfar];rfl
   rw [e1]
   simp (disch:=omega) only [↓pq,↓pj,ps,pz,↓reduceIte,reduceLE,reduceLT,reduceEq,reduceGT,reduceGE,reduceAdd,reduceSub,reduceMul,reduceNeg,G_s_l07Thing_l0,hj,a1,a2,hfar,Bool.false_eq_true,Bool.true_eq_false,eq_iff_iff,true_iff,false_iff]
  | true =>
  by_cases hfr:(gt s j).owner=fr
  ·have hO:ownW (a++b) fr (gt s j)=some wz:=by unfold ownW;rw [if_pos hfr]
   rw [if_pos hfr] at hT
   rw [hfr] at hT
   have hu0:F_s_l06Add [.l [],.l []]=some [.l []]:=by
    have:=e_s_l06Add [] [] (by simp) (by simp)
    rw [uni_nil hops_nil] at this;exact this
   have e1:stepF (a++b) key fr f (gt s j)=far1 f (gt s j).cost ⟨key,0,[]⟩:=by unfold stepF;rw [hfar,hth,hO];rfl
   rw [e1]
   cases f with
   | none=>simp (disch:=omega) only [↓pq,↓pj,ps,pz,↓reduceIte,reduceLE,reduceLT,reduceEq,reduceGT,reduceGE,reduceAdd,reduceSub,reduceMul,reduceNeg,G_s_l07Thing_l0,hj,a1,a2,a3',hfar,hfr,List.map_nil,hT,hu0,Int.zero_add,Bool.false_eq_true,Bool.true_eq_false,eq_iff_iff,true_iff,false_iff,Option.isSome_none];rfl
   | some lb =>
    obtain ⟨l,b0⟩:=lb
    have hl2:=hops_len (hf l b0 rfl)
    have hu1:F_s_l06Add [.l (b0.hops.map eInt),.l []]=some [.l ((uni b0.hops []).map eInt)]:=e_s_l06Add b0.hops [] (by omega) (by first | omega | simp)
    unfold far1 tog
    simp only []
    by_cases q0:(gt s j).cost=l
    ·have q0':¬ l < l:=by omega
     have q0'':¬ l ≥ 60000:=by omega
     simp only [q0,if_true]
     by_cases q1:(0) > b0.cost
     ·have q2:¬ (0) < b0.cost:=by omega
      have q3:¬ (0)=b0.cost:=by omega
      simp only [q1,if_true]
      simp (disch:=omega) only [↓pq,↓pj,ps,pz,↓reduceIte,reduceLE,reduceLT,reduceEq,reduceGT,reduceGE,reduceAdd,reduceSub,reduceMul,reduceNeg,G_s_l07Thing_l0,hj,a1,a2,a3',hfar,hfr,List.map_nil,hT,hu0,Int.zero_add,Bool.false_eq_true,Bool.true_eq_false,eq_iff_iff,true_iff,false_iff,Option.isSome_some,fW_some,fL_some,q0,q0',q0'',q2,q3]
     ·simp only [q1,if_false]
      by_cases q2:b0.cost > (0)
      ·have q3:(0) < b0.cost:=by omega
       simp only [q2,if_true]
       simp (disch:=omega) only [↓pq,↓pj,ps,pz,↓reduceIte,reduceLE,reduceLT,reduceEq,reduceGT,reduceGE,reduceAdd,reduceSub,reduceMul,reduceNeg,G_s_l07Thing_l0,hj,a1,a2,a3',hfar,hfr,List.map_nil,hT,hu0,Int.zero_add,Bool.false_eq_true,Bool.true_eq_false,eq_iff_iff,true_iff,false_iff,Option.isSome_some,fW_some,fL_some,q0,q0',q0'',q3]
      ·have q3:¬ (0) < b0.cost:=by omega
       have q4:(0)=b0.cost:=by omega
       simp only [q2,if_false]
       simp (disch:=omega) only [↓pq,↓pj,ps,pz,↓reduceIte,reduceLE,reduceLT,reduceEq,reduceGT,reduceGE,reduceAdd,reduceSub,reduceMul,reduceNeg,G_s_l07Thing_l0,hj,a1,a2,a3',hfar,hfr,List.map_nil,hT,hu0,Int.zero_add,Bool.false_eq_true,Bool.true_eq_false,eq_iff_iff,true_iff,false_iff,Option.isSome_some,fW_some,fL_some,q0,q0',q0'',q3,q4,hu1]
    ·simp only [q0,if_false]
     by_cases q1:(gt s j).cost < l
     ·simp only [q1,if_true]
      simp (disch:=omega) only [↓pq,↓pj,ps,pz,↓reduceIte,reduceLE,reduceLT,reduceEq,reduceGT,reduceGE,reduceAdd,reduceSub,reduceMul,reduceNeg,G_s_l07Thing_l0,hj,a1,a2,a3',hfar,hfr,List.map_nil,hT,hu0,Int.zero_add,Bool.false_eq_true,Bool.true_eq_false,eq_iff_iff,true_iff,false_iff,Option.isSome_some,fW_some,fL_some,q0,q1]
     ·simp only [q1,if_false]
      simp (disch:=omega) only [↓pq,↓pj,ps,pz,↓reduceIte,reduceLE,reduceLT,reduceEq,reduceGT,reduceGE,reduceAdd,reduceSub,reduceMul,reduceNeg,G_s_l07Thing_l0,hj,a1,a2,a3',hfar,hfr,List.map_nil,hT,hu0,Int.zero_add,Bool.false_eq_true,Bool.true_eq_false,eq_iff_iff,true_iff,false_iff,Option.isSome_some,fW_some,fL_some,q0,q1]
  cases hO:wayO (a++b) (gt s j).owner with
  | none =>
   have hO':ownW (a++b) fr (gt s j)=none:=by unfold ownW;rw [if_neg hfr,hO]
   rw [hnone (by rw [hth,hO'])]
   rw [if_neg hfr,hO] at hT
   simp (disch:=omega) only [↓pq,↓pj,ps,pz,↓reduceIte,reduceLE,reduceLT,reduceEq,reduceGT,reduceGE,reduceAdd,reduceSub,reduceMul,reduceNeg,G_s_l07Thing_l0,hj,a1,a2,a3',hfar,hT,Bool.false_eq_true]
  | some w =>
   have hO':ownW (a++b) fr (gt s j)=some w:=by unfold ownW;rw [if_neg hfr,hO]
   have hw:=ownW_ok hW hO'
   have hl1:=hops_len hw.1
   rw [if_neg hfr,hO] at hT
   simp only [eWay,List.cons_append,List.nil_append] at hT
   have hu0:F_s_l06Add [.l [],.l (w.hops.map eInt)]=some [.l (w.hops.map eInt)]:=by
    have:=e_s_l06Add [] w.hops (by simp) (by omega)
    rw [uni_nil hw.1] at this;exact this
   have e1:stepF (a++b) key fr f (gt s j)=far1 f (gt s j).cost ⟨key,w.cost,w.hops⟩:=by unfold stepF;rw [hfar,hth,hO'];rfl
   rw [e1]
   cases f with
   | none=>simp (disch:=omega) only [↓pq,↓pj,ps,pz,↓reduceIte,reduceLE,reduceLT,reduceEq,reduceGT,reduceGE,reduceAdd,reduceSub,reduceMul,reduceNeg,G_s_l07Thing_l0,hj,a1,a2,a3',hfar,hT,hu0,Int.zero_add,Bool.false_eq_true,Bool.true_eq_false,eq_iff_iff,true_iff,false_iff,Option.isSome_none];rfl
   | some lb =>
    obtain ⟨l,b0⟩:=lb
    have hl2:=hops_len (hf l b0 rfl)
    have hu1:F_s_l06Add [.l (b0.hops.map eInt),.l (w.hops.map eInt)]=some [.l ((uni b0.hops w.hops).map eInt)]:=e_s_l06Add b0.hops w.hops (by omega) (by first | omega | simp)
    unfold far1 tog
    simp only []
    by_cases q0:(gt s j).cost=l
    ·have q0':¬ l < l:=by omega
     have q0'':¬ l ≥ 60000:=by omega
     simp only [q0,if_true]
     by_cases q1:(w.cost) > b0.cost
     ·have q2:¬ (w.cost) < b0.cost:=by omega
      have q3:¬ (w.cost)=b0.cost:=by omega
      simp only [q1,if_true]
      simp (disch:=omega) only [↓pq,↓pj,ps,pz,↓reduceIte,reduceLE,reduceLT,reduceEq,reduceGT,reduceGE,reduceAdd,reduceSub,reduceMul,reduceNeg,G_s_l07Thing_l0,hj,a1,a2,a3',hfar,hT,hu0,Int.zero_add,Bool.false_eq_true,Bool.true_eq_false,eq_iff_iff,true_iff,false_iff,Option.isSome_some,fW_some,fL_some,q0,q0',q0'',q2,q3]
     ·simp only [q1,if_false]
      by_cases q2:b0.cost > (w.cost)
      ·have q3:(w.cost) < b0.cost:=by omega
       simp only [q2,if_true]
       simp (disch:=omega) only [↓pq,↓pj,ps,pz,↓reduceIte,reduceLE,reduceLT,reduceEq,reduceGT,reduceGE,reduceAdd,reduceSub,reduceMul,reduceNeg,G_s_l07Thing_l0,hj,a1,a2,a3',hfar,hT,hu0,Int.zero_add,Bool.false_eq_true,Bool.true_eq_false,eq_iff_iff,true_iff,false_iff,Option.isSome_some,fW_some,fL_some,q0,q0',q0'',q3]
      ·have q3:¬ (w.cost) < b0.cost:=by omega
       have q4:(w.cost)=b0.cost:=by omega
       simp only [q2,if_false]
       simp (disch:=omega) only [↓pq,↓pj,ps,pz,↓reduceIte,reduceLE,reduceLT,reduceEq,reduceGT,reduceGE,reduceAdd,reduceSub,reduceMul,reduceNeg,G_s_l07Thing_l0,hj,a1,a2,a3',hfar,hT,hu0,Int.zero_add,Bool.false_eq_true,Bool.true_eq_false,eq_iff_iff,true_iff,false_iff,Option.isSome_some,fW_some,fL_some,q0,q0',q0'',q3,q4,hu1]
    ·simp only [q0,if_false]
     by_cases q1:(gt s j).cost < l
     ·simp only [q1,if_true]
      simp (disch:=omega) only [↓pq,↓pj,ps,pz,↓reduceIte,reduceLE,reduceLT,reduceEq,reduceGT,reduceGE,reduceAdd,reduceSub,reduceMul,reduceNeg,G_s_l07Thing_l0,hj,a1,a2,a3',hfar,hT,hu0,Int.zero_add,Bool.false_eq_true,Bool.true_eq_false,eq_iff_iff,true_iff,false_iff,Option.isSome_some,fW_some,fL_some,q0,q1]
     ·simp only [q1,if_false]
      simp (disch:=omega) only [↓pq,↓pj,ps,pz,↓reduceIte,reduceLE,reduceLT,reduceEq,reduceGT,reduceGE,reduceAdd,reduceSub,reduceMul,reduceNeg,G_s_l07Thing_l0,hj,a1,a2,a3',hfar,hT,hu0,Int.zero_add,Bool.false_eq_true,Bool.true_eq_false,eq_iff_iff,true_iff,false_iff,Option.isSome_some,fW_some,fL_some,q0,q1]
 ·intro f q hf
  cases f with
  | none=>simp (disch:=omega) only [↓pq,↓pj,ps,pz,↓reduceIte,reduceLE,reduceLT,reduceEq,reduceGT,reduceGE,reduceAdd,reduceSub,reduceMul,reduceNeg,G_s_l07Thing_l0,Option.isSome_none,Bool.false_eq_true]
  | some x=>simp (disch:=omega) only [↓pq,↓pj,ps,pz,↓reduceIte,reduceLE,reduceLT,reduceEq,reduceGT,reduceGE,reduceAdd,reduceSub,reduceMul,reduceNeg,G_s_l07Thing_l0,Option.isSome_some]
end Go.Proofs.YtbhplkilhknciaaDoorC

/- FnWalks: what the plain programs say. Conditions: none. -/
import Derived.Test.YtlofiplkmgmnfaaXSDh
namespace Go.Proofs.YtlofiplkmgmnfaaC
open Int (reduceLE reduceLT reduceEq reduceGT reduceGE reduceAdd reduceSub reduceMul reduceNeg)
set_option linter.unusedVariables false
set_option linter.unusedSimpArgs false
def ys_FnWalks:List Ty:=[.sl yByte]
def lineR (r:Route):Line:=⟨r.thing,r.to,r.hops⟩
def lineP (l:List Line) (th:Bool) (to:Int):Int:=findP (fun x:Line=>x.thing == th && x.to == to) l
theorem e_i_lineAt (l:List Line) (th:Bool) (to:Int) (u:T) (h:l.length≤1048576):F_i_lineAt [.l (l.map eLine),bb th,ii to,u]=some [ii (lineP l th to)]:=by
 rw [g_i_lineAt];simp (disch:=omega) only [↓pq,↓pj,ps,pz,↓reduceIte,reduceLE,reduceLT,reduceEq,reduceGT,reduceGE,reduceAdd,reduceSub,reduceMul,reduceNeg,G_i_lineAt_l0,G_i_lineAt]
 refine (iter_findPx l (fun i=>[ii 0,ii i]) (fun x=>x.thing == th && x.to == to) (fun j=>some [ii j]) (outN:=some [ii (-1)]) rfl (rounds_lt h) ?_ ?_).trans (findP_ite _ _)
 ·intro i hi q
  have he:Prim.ev (.bb .eql) [bb (gt l (i:Int)).thing,bb th]=some (bb ((gt l (i:Int)).thing == th)):=by cases (gt l (i:Int)).thing <;> cases th <;> rfl
  cases hc:(gt l (i:Int)).thing == th with
  | true =>
   rw [hc] at he
   by_cases h2:(gt l (i:Int)).to=to
   ·simp (disch:=omega) only [↓pq,↓pj,ps,pz,↓reduceIte,reduceLE,reduceLT,reduceEq,reduceGT,reduceGE,reduceAdd,reduceSub,reduceMul,reduceNeg,G_i_lineAt_l0,hi,he,h2]
    simp
   ·simp (disch:=omega) only [↓pq,↓pj,ps,pz,↓reduceIte,reduceLE,reduceLT,reduceEq,reduceGT,reduceGE,reduceAdd,reduceSub,reduceMul,reduceNeg,G_i_lineAt_l0,hi,he,h2]
    simp [h2]
  | false =>
   rw [hc] at he
   simp (disch:=omega) only [↓pq,↓pj,ps,pz,↓reduceIte,reduceLE,reduceLT,reduceEq,reduceGT,reduceGE,reduceAdd,reduceSub,reduceMul,reduceNeg,G_i_lineAt_l0,hi,he,Bool.false_eq_true]
   simp
 ·intro q
  simp (disch:=omega) only [↓pq,↓pj,ps,pz,↓reduceIte,reduceLE,reduceLT,reduceEq,reduceGT,reduceGE,reduceAdd,reduceSub,reduceMul,reduceNeg,G_i_lineAt_l0,]
theorem e_i_copyLine (b:Bool) (n:Int) (l:List Int) (h:l.length≤1048576):F_i_copyLine [bb b,ii n,.l (l.map eInt)]=some [bb b,ii n,.l (l.map eInt)]:=by
 rw [g_i_copyLine];simp (disch:=omega) only [↓pq,↓pj,ps,pz,↓reduceIte,reduceLE,reduceLT,reduceEq,reduceGT,reduceGE,reduceAdd,reduceSub,reduceMul,reduceNeg,G_i_copyLine,e_i_copyInts _ h]
theorem e_i_TableOf (R:List Route) (h:R.length≤1048576) (hp:R.Pairwise RouteLt) (hh:∀ r∈R,r.hops.length≤1048576):F_i_TableOf [.l (R.map eRoute)]=some [.l ((R.map lineR).map eLine)]:=by
 rw [g_i_TableOf];simp (disch:=omega) only [↓pq,↓pj,ps,pz,↓reduceIte,reduceLE,reduceLT,reduceEq,reduceGT,reduceGE,reduceAdd,reduceSub,reduceMul,reduceNeg,G_i_TableOf_l0,G_i_TableOf]
 refine (iter_foldlx R (fun i c=>[.l (c.map eLine),ii i]) (fun c r=>c++[lineR r]) (fun c=>some [T.l (c.map eLine)]) [] (fun i c=>c=(R.take i).map lineR) rfl (rounds_lt h) rfl ?_ ?_).trans (by rw [foldl_map,List.nil_append])
 ·intro i c hi hc
  have hi':i < R.length:=by omega
  refine ⟨by rw [hc,List.take_succ_eq_append_getElem hi',List.map_append,gt_elem hi'];rfl,fun q=>?_⟩
  have hcl:c.length≤1048576:=by rw [hc];simp;omega
  have hm:=gt_mem (l:=R) (n:=(i:Int)) (by omega) hi
  have e2:=e_i_copyLine (gt R (i:Int)).thing (gt R (i:Int)).to (gt R (i:Int)).hops (hh _ hm)
  have hnone:lineP c (gt R (i:Int)).thing (gt R (i:Int)).to < 0:=by
   unfold lineP
   rw [findP_none]
   intro x hx
   rw [hc] at hx
   obtain ⟨r,hr,rfl⟩:=List.mem_map.1 hx
   obtain ⟨j,hj,e⟩:=List.mem_iff_getElem.1 hr
   simp only [List.length_take] at hj
   rw [List.getElem_take] at e
   have:=(List.pairwise_iff_getElem.1 hp j i (by omega) hi' (by omega)).2.2
   rw [e] at this
   rw [gt_elem hi']
   cases hb:(lineR r).thing == R[i].thing with
   | false=>simp
   | true =>
    have hb:r.thing=R[i].thing:=by simpa [lineR] using hb
    have:=this hb
    have h3:((lineR r).to == R[i].to)=false:=by simpa [lineR] using this
    rw [h3];rfl
  simp (disch:=omega) only [↓pq,↓pj,ps,pz,↓reduceIte,reduceLE,reduceLT,reduceEq,reduceGT,reduceGE,reduceAdd,reduceSub,reduceMul,reduceNeg,G_i_TableOf_l0,hi,e_i_lineAt _ _ _ _ hcl,hnone,e2]
  rfl
 ·intro c q hc
  simp (disch:=omega) only [↓pq,↓pj,ps,pz,↓reduceIte,reduceLE,reduceLT,reduceEq,reduceGT,reduceGE,reduceAdd,reduceSub,reduceMul,reduceNeg,G_i_TableOf_l0,]
def eLines (l:List Line):List T:=[.l (l.map eLine)]
theorem cell_Lines {l:List (List Line)} {n:Int} (h:0≤n) (h':n < l.length):Prim.ev (.cell 1 0) [.l (l.map eLines),ii n]=some (.l ((gt l n).map eLine)):=ev_cellZ h (gt_get h h') rfl rfl
theorem lit_Lines (l:List Line):Prim.ev (.lit 1 [false]) [.l (l.map eLine)]=some (.l ([l].map eLines)):=by simp [Prim.ev,masked,chunks,eLines]
theorem app1_Lines {l:List (List Line)} {x:List Line} (h:l.length < 1000):Prim.ev (.app false 1) [.l (l.map eLines),.l ([x].map eLines)]=some (.l ((l++[x]).map eLines)):=app_enc (w:=1) (fun _=>rfl) (.inl rfl) (by unfold cap32;simp;omega)
section
variable {x:Net} {L U:List Bool} (hx:netOk x=true)
include hx
theorem within_hop {v:Int} (hv:In6 v) {w:Way} (hw:w∈within (ideal x L U) (areasOf x.links v) v) (hne:w.to≠v) {h:Int} (hh:h∈w.hops) :
  ∃ a,linkC (ideal x L U) a v h≠0∧∃ n,Pa (ideal x L U) a h w.to n∧linkC (ideal x L U) a v h+n=w.cost:=by
 have hs:=(ideal_sto (L:=L) (U:=U) hx).ok (by decide)
 obtain ⟨_,_,_,b4⟩:=within_best hw
 obtain ⟨y,hy,e1,hyh⟩:=(b4 h).1 hh
 obtain ⟨hy1,hy2⟩:=List.mem_filter.1 hy
 have hy2:y.to=w.to:=by simpa using hy2
 obtain ⟨a,ha,hya⟩:=mem_cand.1 hy1
 obtain ⟨_,_,_,c4⟩:=(waysIn_spec hs hv (waysIn_node hya)).1 y hya
 obtain ⟨k1,n,k2,k3⟩:=(c4 (by rw [hy2];exact hne) h).1 hyh
 rw [hy2] at k2
 exact ⟨a,k1,n,k2,by omega⟩
theorem within_some {v:Int} (hv:In6 v) {w:Way} (hw:w∈within (ideal x L U) (areasOf x.links v) v) (hne:w.to≠v):0 < w.hops.length∧1≤w.cost:=by
 have hs:=(ideal_sto (L:=L) (U:=U) hx).ok (by decide)
 obtain ⟨b1,⟨y,hy,e1⟩,b3,b4⟩:=within_best hw
 obtain ⟨hy1,hy2⟩:=List.mem_filter.1 hy
 have hy2:y.to=w.to:=by simpa using hy2
 obtain ⟨a,ha,hya⟩:=mem_cand.1 hy1
 obtain ⟨_,c2,_,c4⟩:=(waysIn_spec hs hv (waysIn_node hya)).1 y hya
 have hyn:y.to≠v:=by rw [hy2];exact hne
 have hp:=c2.nn hs
 refine ⟨?_,by have:y.cost≠0:=fun e=>hyn (hp.2 e).symm;omega⟩
 rcases c2.first with ⟨e,_⟩ | ⟨h,n,hc,p,e⟩
 ·exact absurd e.symm hyn
 ·have hm:h∈y.hops:=(c4 hyn h).2 ⟨hc,n,p,e⟩
  exact List.length_pos_of_mem ((b4 h).2 ⟨y,hy,e1,hm⟩)
def restC (x:Net) (L U:List Bool) (to u:Int):Int:=if u=to then 0 else match wayO (within (ideal x L U) (areasOf x.links u) u) to with | some w=>w.cost | none=>0
def Goes (x:Net) (L U:List Bool) (to u:Int):Prop:=In6 u∧(u=to∨∃ w∈within (ideal x L U) (areasOf x.links u) u,w.to=to)
theorem goes_step {to v:Int} (hv:In6 v) (hne:v≠to) {w:Way} (hw:w∈within (ideal x L U) (areasOf x.links v) v) (hto:w.to=to) {h:Int} (hh:h∈w.hops) :
  Goes x L U to h∧restC x L U to h < restC x L U to v:=by
 have hs:=(ideal_sto (L:=L) (U:=U) hx).ok (by decide)
 obtain ⟨a,k1,n,k2,k3⟩:=within_hop hx hv hw (by rw [hto];exact fun e=>hne e.symm) hh
 have hk:=linkC_bnd hs a v h
 have hc:restC x L U to v=w.cost:=by
  unfold restC
  rw [if_neg hne,(wayO_mem within_asc).2 ⟨hw,hto⟩]
 have hh6:=k2.l
 rw [hc]
 by_cases he:h=to
 ·refine ⟨⟨hh6,.inl he⟩,?_⟩
  have:=k2.nn hs
  unfold restC
  rw [if_pos he];omega
 ·have hp:=(link_node k1).2
  have ha:=(ideal_nodeP hx hp).2.2.2
  rw [hto] at k2
  obtain ⟨w',hw',e⟩:=within_reach hs hh6 ha hp k2
  refine ⟨⟨hh6,.inr ⟨w',hw',e⟩⟩,?_⟩
  have hle:=(within_cost hs hh6 hw').2 a ha hp n (by rw [e];exact k2)
  unfold restC
  rw [if_neg he,(wayO_mem within_asc).2 ⟨hw',e⟩]
  show w'.cost < w.cost
  omega
end
def tabs (x:Net) (L U:List Bool) (k:Nat):List (List Line):=(List.range k).map fun i:Nat=>(routesOf (ideal x L U) (areasOf x.links ((i:Int)+1)) (border x.links ((i:Int)+1)) ((i:Int)+1)).map lineR
theorem tabs_at {x:Net} {L U:List Bool} {k:Nat} {v:Int} (h:1≤v) (h':v≤k):gt (tabs x L U k) (v - 1)=(routesOf (ideal x L U) (areasOf x.links v) (border x.links v) v).map lineR:=by
 obtain ⟨i,rfl⟩:∃ i:Nat,v=(i:Int)+1:=⟨(v - 1).toNat,by omega⟩
 rw [show (i:Int)+1 - 1=(i:Int) by omega,gt_elem (by simp [tabs];omega)]
 simp [tabs]
theorem line_at {R:List Route} (hp:R.Pairwise RouteLt) {r:Route} (hr:r∈R):0≤lineP (R.map lineR) r.thing r.to∧lineP (R.map lineR) r.thing r.to < R.length∧gt (R.map lineR) (lineP (R.map lineR) r.thing r.to)=lineR r:=by
 have h1:0≤lineP (R.map lineR) r.thing r.to:=findP_has (x:=lineR r) (List.mem_map.2 ⟨r,hr,rfl⟩) (by simp [lineR])
 have hlt:=findP_lt (fun x:Line=>x.thing == r.thing && x.to == r.to) (R.map lineR)
 have h2:=findP_spec (fun x:Line=>x.thing == r.thing && x.to == r.to) (R.map lineR) h1
 have h3:=gt_mem (l:=R.map lineR) h1 hlt
 rw [List.length_map] at hlt
 refine ⟨h1,hlt,?_⟩
 obtain ⟨r',hr',er⟩:=List.mem_map.1 h3
 have er:lineR r'=gt (R.map lineR) (findP (fun x:Line=>x.thing == r.thing && x.to == r.to) (R.map lineR)):=er
 unfold lineP
 rw [← er]
 have h2:r'.thing=r.thing∧r'.to=r.to:=by
  have h2:((gt (R.map lineR) (findP (fun x:Line=>x.thing == r.thing && x.to == r.to) (R.map lineR))).thing == r.thing && (gt (R.map lineR) (findP (fun x:Line=>x.thing == r.thing && x.to == r.to) (R.map lineR))).to == r.to)=true:=h2
  rw [← er] at h2
  simpa [lineR] using h2
 obtain ⟨i,hi,e1⟩:=List.mem_iff_getElem.1 hr
 obtain ⟨j,hj,e2⟩:=List.mem_iff_getElem.1 hr'
 have hp:=List.pairwise_iff_getElem.1 hp
 rcases Nat.lt_trichotomy i j with hij | hij | hij
 ·have:=hp i j hi hj hij
  rw [e1,e2] at this
  exact absurd h2.2.symm (this.2.2 h2.1.symm)
 ·subst hij;rw [← e1,← e2]
 ·have:=hp j i hj hi hij
  rw [e1,e2] at this
  exact absurd h2.2 (this.2.2 h2.1)
def WalkP (v to:Int) (o:Option (List T)):Prop:=∃ out:List Int,o=some [.l (out.map eInt),bb true]∧(2≤out.length∧out.length≤6)∧gt out 0=v∧gt out ((out.length:Int) - 1)=to
theorem walk_ok {x:Net} {L U:List Bool} (hx:netOk x=true) {v to:Int} (hne:v≠to) (hg:Goes x L U to v) (picks:List Int) (hpk:picks.length=12) :
  WalkP v to (F_i_Walk [.l ((tabs x L U x.n.toNat).map eLines),ii v,ii to,.l (picks.map eInt)]):=by
 have hn:=netOk_n hx
 have hs:=(ideal_sto (L:=L) (U:=U) hx).ok (by decide)
 rw [g_i_Walk];simp (disch:=omega) only [↓pq,↓pj,ps,pz,↓reduceIte,reduceLE,reduceLT,reduceEq,reduceGT,reduceGE,reduceAdd,reduceSub,reduceMul,reduceNeg,G_i_Walk_l0,G_i_Walk]
 refine iter_post (WalkP v to) (fun m st=>∃ (out:List Int) (at':Int),st=[.l [],bb false,.l (out.map eInt),ii at']∧Goes x L U to at'∧out.Nodup∧(∀ y∈out,In6 y)∧(∀ y∈out,y=at'∨restC x L U to at' < restC x L U to y)∧gt out 0=v∧gt out ((out.length:Int) - 1)=at'∧1≤out.length∧m=7 - out.length)
  ?_ 6 [.l [],bb false,.l ([v].map eInt),ii v] rounds ⟨[v],v,rfl,hg,by simp,by intro y hy;rw [List.mem_singleton] at hy;rw [hy];exact hg.1,by intro y hy;exact .inl (List.mem_singleton.1 hy),rfl,rfl,by simp,by simp⟩ (by unfold rounds;omega)
 rintro m st q ⟨out,at',rfl,⟨h6,hgo⟩,hnd,hin,hre,h0,hla,hl1,rfl⟩ hq
 have hlen:=nodup6 hnd hin
 have hlo:Prim.ev .len [.l (out.map eInt)]=some (ii out.length):=ev_lenM
 by_cases hc:at'=to
 ·simp (disch:=omega) only [↓pq,↓pj,ps,pz,↓reduceIte,reduceLE,reduceLT,reduceEq,reduceGT,reduceGE,reduceAdd,reduceSub,reduceMul,reduceNeg,G_i_Walk_l0,G_i_Walk_l0,hc]
  have h2:2≤out.length:=by
   rcases Nat.lt_or_ge out.length 2 with h2 | h2
   ·exfalso
    have:(out.length:Int) - 1=0:=by omega
    rw [this,h0] at hla
    exact hne (hla.trans hc)
   ·exact h2
  exact ⟨out,rfl,⟨h2,hlen⟩,h0,by rw [hla,hc]⟩
 ·obtain ⟨w,hw,hto⟩:=hgo.resolve_left hc
  have ha:=h6.1
  have ha':=h6.2
  have hna:at'≤x.n:=by
   obtain ⟨⟨a,hA,p⟩,_⟩:=within_cost hs h6 hw
   have:=(pa_nodes p (by rw [hto];exact hc)).1
   exact (ideal_nodeP hx this).2.2.1.2
  have hR:=routes_lt (s:=ideal x L U) (A:=areasOf x.links at') (z:=border x.links at') (fr:=at')
  have hmem:rWith w∈routesOf (ideal x L U) (areasOf x.links at') (border x.links at') at':=by
   unfold routesOf
   refine List.mem_append.2 (.inl (List.mem_append.2 (.inl (List.mem_map.2 ⟨w,List.mem_filter.2 ⟨hw,?_⟩,rfl⟩))))
   have:w.to≠at':=by rw [hto];exact fun e=>hc e.symm
   simpa using this
  have hRl:=routesOf_len (ideal x L U) (areasOf x.links at') (border x.links at') at'
  obtain ⟨k1,k2,k3⟩:=line_at hR hmem
  rw [show (rWith w).thing=false from rfl,show (rWith w).to=to from hto] at k1 k2 k3
  obtain ⟨hh,_⟩:=within_some hx h6 hw (by rw [hto];exact fun e=>hc e.symm)
  have hwh:=hops_len (within_ok hw).2.1
  have step:=fun h (hm:h∈w.hops)=>goes_step hx h6 hc hw hto hm
  have tl:((tabs x L U x.n.toNat).length:Int)=x.n:=by simp [tabs];omega
  have t1:at' - 1 < (tabs x L U x.n.toNat).length:=by omega
  have e1:=tabs_at (x:=x) (L:=L) (U:=U) (k:=x.n.toNat) (v:=at') ha (by omega)
  have e2:=cell_Lines (l:=tabs x L U x.n.toNat) (n:=at' - 1) (by omega) t1
  have e3:=ev_bndZ (enc:=eLines) (l:=tabs x L U x.n.toNat) (n:=at' - 1) (by omega) t1
  have e4:=e_i_lineAt ((routesOf (ideal x L U) (areasOf x.links at') (border x.links at') at').map lineR) false to (.l []) (by simp;omega)
  rw [e1] at e2
  have hlt':((tabs x L U x.n.toNat).map eLines).length=x.n.toNat:=by simp [tabs]
  have e6:Prim.ev .len [.l ((tabs x L U x.n.toNat).map eLines)]=some (ii x.n):=by rw [ev_lenM,tl]
  have e7:=e_i_in at' 1 x.n
  rw [show inB at' 1 x.n=true from inB_iff.2 ⟨ha,hna⟩] at e7
  have k2':lineP ((routesOf (ideal x L U) (areasOf x.links at') (border x.links at') at').map lineR) false to < ((routesOf (ideal x L U) (areasOf x.links at') (border x.links at') at').map lineR).length:=by rw [List.length_map];exact k2
  generalize (routesOf (ideal x L U) (areasOf x.links at') (border x.links at') at').map lineR=Tb at *
  have k4:¬ lineP Tb false to < 0:=by omega
  have hhl:Prim.ev .len [.l (w.hops.map eInt)]=some (ii w.hops.length):=ev_lenM
  have c1:¬ (out.length:Int) > 12:=by omega
  have c2:¬ (w.hops.length:Int)=0:=by omega
  have c3:(w.hops.length:Int)≠0:=c2
  have hk3:gt Tb (lineP Tb false to)=⟨false,to,w.hops⟩:=by rw [k3];show (⟨false,w.to,w.hops⟩:Line)=_;rw [hto]
  have go:∀ pick:Int,0≤pick→WalkP v to (q [.l [],bb false,.l ((out++[gt w.hops (pick.tmod w.hops.length)]).map eInt),ii (gt w.hops (pick.tmod w.hops.length))]):=by
   intro pick hp
   have r1:=Int.tmod_nonneg (w.hops.length:Int) hp
   have r2:=Int.tmod_lt_of_pos pick (show (0:Int) < w.hops.length by omega)
   have hm:=gt_mem (l:=w.hops) r1 r2
   generalize gt w.hops (pick.tmod w.hops.length)=h at *
   obtain ⟨s1,s2⟩:=step h hm
   have hno:h ∉ out:=by
    intro hm'
    rcases hre h hm' with e | e
    ·rw [e] at s2;omega
    ·omega
   refine hq (7 - (out++[h]).length) _ (by simp;omega) ⟨out++[h],h,rfl,s1,?_,?_,?_,?_,?_,by simp,rfl⟩
   ·rw [List.nodup_append]
    exact ⟨hnd,by simp,fun a ha b hb=>by rw [List.mem_singleton] at hb;rw [hb];exact fun e=>hno (e ▸ ha)⟩
   ·intro y hy
    rcases List.mem_append.1 hy with hy | hy
    ·exact hin y hy
    ·rw [List.mem_singleton.1 hy];exact s1.1
   ·intro y hy
    rcases List.mem_append.1 hy with hy | hy
    ·rcases hre y hy with e | e
     ·rw [e];exact .inr s2
     ·exact .inr (by omega)
    ·exact .inl (List.mem_singleton.1 hy)
   ·rw [← h0]
    unfold gt
    simp only [List.getD_eq_getElem?_getD]
    rw [List.getElem?_append_left (by show (0:Int).toNat < out.length;simp;omega)]
   ·rw [show (((out++[h]).length:Nat):Int) - 1=((out.length:Nat):Int) by simp,gt_elem (by simp)]
    simp
  by_cases c4:(out.length:Int) - 1 < picks.length
  ·have c5:0≤(out.length:Int) - 1:=by omega
   by_cases c6:(0:Int) > gt picks ((out.length:Int) - 1)
   ·have g:=go 0 (by omega)
    have r1:=Int.tmod_nonneg (w.hops.length:Int) (show (0:Int)≤0 by omega)
    have r2:=Int.tmod_lt_of_pos 0 (show (0:Int) < w.hops.length by omega)
    simp (disch:=omega) only [↓pq,↓pj,ps,pz,↓reduceIte,reduceLE,reduceLT,reduceEq,reduceGT,reduceGE,reduceAdd,reduceSub,reduceMul,reduceNeg,G_i_Walk_l0,G_i_Walk_l0,hc,hlo,c1,e6,e7,e2,e3,e4,k4,k1,k2',hk3,hhl,c2,c3,c4,c5,c6,r1,r2]
    exact g
   ·have g:=go (gt picks ((out.length:Int) - 1)) (by omega)
    have r1:=Int.tmod_nonneg (w.hops.length:Int) (show (0:Int)≤gt picks ((out.length:Int) - 1) by omega)
    have r2:=Int.tmod_lt_of_pos (gt picks ((out.length:Int) - 1)) (show (0:Int) < w.hops.length by omega)
    simp (disch:=omega) only [↓pq,↓pj,ps,pz,↓reduceIte,reduceLE,reduceLT,reduceEq,reduceGT,reduceGE,reduceAdd,reduceSub,reduceMul,reduceNeg,G_i_Walk_l0,G_i_Walk_l0,hc,hlo,c1,e6,e7,e2,e3,e4,k4,k1,k2',hk3,hhl,c2,c3,c4,c5,c6,r1,r2]
    exact g
  ·omega
theorem fk_list {x:Net} {L U:List Bool} (hx:netOk x=true) {v:Int} (hv:1≤v∧v≤x.n) (picks:List Int) (hpk:picks.length=12) (q:Sem1) :
  iter (G_FnWalks_l0 F_i_Walk (.l ((tabs x L U x.n.toNat).map eLines)) (.l (picks.map eInt)) (ii v) (.l ((routesOf (ideal x L U) (areasOf x.links v) (border x.links v) v).map eRoute)) q) rounds [bb false,ii 0]=q [bb false,ii (v+1)]:=by
 have hn:=netOk_n hx
 have hRl:=routesOf_len (ideal x L U) (areasOf x.links v) (border x.links v) v
 refine iter_while (fun i=>[bb false,ii (i:Int)]) (routesOf (ideal x L U) (areasOf x.links v) (border x.links v) v).length rfl (rounds_lt (by omega)) ?_ ?_
 ·intro i hi q'
  have hm:=gt_mem (l:=routesOf (ideal x L U) (areasOf x.links v) (border x.links v) v) (n:=(i:Int)) (by omega) hi
  generalize hr:gt (routesOf (ideal x L U) (areasOf x.links v) (border x.links v) v) (i:Int)=r at hm
  by_cases hk:r.kind=1
  ·rcases route_of hm with ⟨_,_,h3,w,hw,h4,_⟩ | ⟨_,h,_⟩ | ⟨_,h,_⟩
   ·obtain ⟨out,e,hl,o1,o2⟩:=walk_ok (L:=L) (U:=U) hx (v:=v) (to:=r.to) (fun e=>h3 e.symm) ⟨⟨by omega,by omega⟩,.inr ⟨w,hw,h4⟩⟩ picks hpk
    have hlo:Prim.ev .len [.l (out.map eInt)]=some (ii out.length):=ev_lenM
    have c1:¬ (out.length:Int) < 2:=by omega
    have c2:(0:Int) < out.length:=by omega
    have c3:(out.length:Int) - 1 < out.length:=by omega
    have c4:0≤(out.length:Int) - 1:=by omega
    simp (disch:=omega) only [↓pq,↓pj,ps,pz,↓reduceIte,reduceLE,reduceLT,reduceEq,reduceGT,reduceGE,reduceAdd,reduceSub,reduceMul,reduceNeg,G_FnWalks_l0,G_FnWalks_l1,G_FnWalks_l2,G_FnWalks_l0,hi,hr,hk,e,hlo,c1,c2,c3,c4,o1,o2]
   ·omega
   ·omega
  ·simp (disch:=omega) only [↓pq,↓pj,ps,pz,↓reduceIte,reduceLE,reduceLT,reduceEq,reduceGT,reduceGE,reduceAdd,reduceSub,reduceMul,reduceNeg,G_FnWalks_l0,G_FnWalks_l1,G_FnWalks_l2,G_FnWalks_l0,hi,hr,hk]
 ·intro q'
  have hz:¬ (((routesOf (ideal x L U) (areasOf x.links v) (border x.links v) v).length:Int) < (routesOf (ideal x L U) (areasOf x.links v) (border x.links v) v).length):=by omega
  simp (disch:=omega) only [↓pq,↓pj,ps,pz,↓reduceIte,reduceLE,reduceLT,reduceEq,reduceGT,reduceGE,reduceAdd,reduceSub,reduceMul,reduceNeg,G_FnWalks_l0,G_FnWalks_l1,G_FnWalks_l2,G_FnWalks_l0,hz]
theorem walk_self (t:T) (n:Int) (p:T):F_i_Walk [t,ii n,ii n,p]=some [.l ([n].map eInt),bb true]:=by
 rw [g_i_Walk];simp (disch:=omega) only [↓pq,↓pj,ps,pz,↓reduceIte,reduceLE,reduceLT,reduceEq,reduceGT,reduceGE,reduceAdd,reduceSub,reduceMul,reduceNeg,G_i_Walk_l0,G_i_Walk]
 refine iter_while (fun k=>[.l [],bb false,.l ([n].map eInt),ii n]) 0 rfl (by unfold rounds;omega) (fun k hk=>by omega) fun q=>?_
 simp (disch:=omega) only [↓pq,↓pj,ps,pz,↓reduceIte,reduceLE,reduceLT,reduceEq,reduceGT,reduceGE,reduceAdd,reduceSub,reduceMul,reduceNeg,G_i_Walk_l0,G_i_Walk_l0]
theorem walk_none (p:T):F_i_Walk [.l [],ii 1,ii 2,p]=some [.l [],bb false]:=by
 rw [g_i_Walk];simp (disch:=omega) only [↓pq,↓pj,ps,pz,↓reduceIte,reduceLE,reduceLT,reduceEq,reduceGT,reduceGE,reduceAdd,reduceSub,reduceMul,reduceNeg,G_i_Walk_l0,G_i_Walk]
 refine iter_while (fun k=>[.l [],bb false,.l ([1].map eInt),ii 1]) 0 rfl (by unfold rounds;omega) (fun k hk=>by omega) fun q=>?_
 have e7:=e_i_in 1 1 0
 rw [show inB 1 1 0=false from rfl] at e7
 have h1:¬ (([1]:List Int).length:Int) > 12:=by simp
 simp (disch:=omega) only [↓pq,↓pj,ps,pz,↓reduceIte,reduceLE,reduceLT,reduceEq,reduceGT,reduceGE,reduceAdd,reduceSub,reduceMul,reduceNeg,G_i_Walk_l0,G_i_Walk_l0,e7,h1,Bool.false_eq_true]
theorem true_FnWalks (ts:List T) (h:WTs ys_FnWalks ts):F_FnWalks ts=some [.c (.bool true)]:=by
 obtain ⟨B,rfl,hB⟩:=dec_code ts h
 rw [g_FnWalks]
 by_cases hb:(B.length:Int) > 1048576
 ·simp (disch:=omega) only [↓pq,↓pj,ps,pz,↓reduceIte,reduceLE,reduceLT,reduceEq,reduceGT,reduceGE,reduceAdd,reduceSub,reduceMul,reduceNeg,G_FnWalks_l0,G_FnWalks_l1,G_FnWalks_l2,G_FnWalks,e_big,hb,decide_true]
 obtain ⟨x,L,U,e,hx,hn2,ht,hL,hU⟩:=e_s_DrawRightNet hB (by omega)
 have hlk:=netOk_links hx
 have hn:=netOk_n hx
 have hi:idealB x L U=true:=by unfold idealB;simp [hx,hL,hU]
 have eI:=e_s_Ideal x.n x.links x.things L U (by omega) (by omega)
 have hS:=ideal_sto (L:=L) (U:=U) hx
 have hx':(⟨x.n,x.links,x.things⟩:Net)=x:=rfl
 rw [hx',if_pos hi] at eI
 have hs:=hS.ok (by decide)
 have hsl:=hS.len
 have hsn:=hS.near
 obtain ⟨picks,ep,hpk,_⟩:=e_s_DrawPlaces hB (by omega)
 have routes:=fun j:Int=>e_s_RoutesOf (ideal x L U) (areasOf x.links j) (border x.links j) j (by omega) hsn hs (by have:=areasOf_len x.links j;omega)
 have eA:=fun j:Int=>e_s_AreasOf (ii x.n) (.l (x.things.map eThing)) x.links j x.n hlk.1 hlk.2
 have eB:=fun j:Int=>e_s_Border (ii x.n) (.l (x.things.map eThing)) x.links j x.n hlk.1 hlk.2
 simp (disch:=omega) only [↓pq,↓pj,ps,pz,↓reduceIte,reduceLE,reduceLT,reduceEq,reduceGT,reduceGE,reduceAdd,reduceSub,reduceMul,reduceNeg,G_FnWalks_l0,G_FnWalks_l1,G_FnWalks_l2,G_FnWalks,e_big,hb,decide_false,Bool.false_eq_true,e,eI]
 refine iter_while (fun j=>[.l ((tabs x L U j).map eLines),ii ((j:Int)+1)]) x.n.toNat rfl (rounds_lt (by omega)) ?_ ?_
 ·intro j hj q
  have hj':(j:Int)+1≤x.n:=by omega
  have eT:=e_i_TableOf (routesOf (ideal x L U) (areasOf x.links ((j:Int)+1)) (border x.links ((j:Int)+1)) ((j:Int)+1)) (by have:=routesOf_len (ideal x L U) (areasOf x.links ((j:Int)+1)) (border x.links ((j:Int)+1)) ((j:Int)+1);omega) routes_lt (fun r hr=>by have:=(routesOf_ok hs r hr).2;omega)
  have ea:=app1_Lines (l:=tabs x L U j) (x:=(routesOf (ideal x L U) (areasOf x.links ((j:Int)+1)) (border x.links ((j:Int)+1)) ((j:Int)+1)).map lineR) (by simp [tabs];omega)
  have es:tabs x L U (j+1)=tabs x L U j++[(routesOf (ideal x L U) (areasOf x.links ((j:Int)+1)) (border x.links ((j:Int)+1)) ((j:Int)+1)).map lineR]:=by
   unfold tabs
   rw [List.range_succ,List.map_append];rfl
  rw [es]
  simp (disch:=omega) only [↓pq,↓pj,ps,pz,↓reduceIte,reduceLE,reduceLT,reduceEq,reduceGT,reduceGE,reduceAdd,reduceSub,reduceMul,reduceNeg,G_FnWalks_l0,G_FnWalks_l1,G_FnWalks_l2,G_FnWalks_l2,hj',eA,eB,routes,eT,lit_Lines,ea]
 ·intro q
  have hj':¬ ((x.n.toNat:Int)+1≤x.n):=by omega
  simp (disch:=omega) only [↓pq,↓pj,ps,pz,↓reduceIte,reduceLE,reduceLT,reduceEq,reduceGT,reduceGE,reduceAdd,reduceSub,reduceMul,reduceNeg,G_FnWalks_l0,G_FnWalks_l1,G_FnWalks_l2,G_FnWalks_l2,hj',ep]
  refine iter_while (fun j=>[bb false,ii ((j:Int)+1)]) x.n.toNat rfl (rounds_lt (by omega)) ?_ ?_
  ·intro j hj q
   have hj':(j:Int)+1≤x.n:=by omega
   have tail:=fk_list (L:=L) (U:=U) hx (v:=(j:Int)+1) (by omega) picks hpk q
   simp (disch:=omega) only [↓pq,↓pj,ps,pz,↓reduceIte,reduceLE,reduceLT,reduceEq,reduceGT,reduceGE,reduceAdd,reduceSub,reduceMul,reduceNeg,G_FnWalks_l0,G_FnWalks_l1,G_FnWalks_l2,G_FnWalks_l1,hj',eA,eB,routes]
   exact tail
  ·intro q
   have e1:=refl_sameInts [1] (by simp)
   simp (disch:=omega) only [↓pq,↓pj,ps,pz,↓reduceIte,reduceLE,reduceLT,reduceEq,reduceGT,reduceGE,reduceAdd,reduceSub,reduceMul,reduceNeg,G_FnWalks_l0,G_FnWalks_l1,G_FnWalks_l2,G_FnWalks_l1,hj',walk_self,walk_none,e1,Bool.false_eq_true]
   rfl
end Go.Proofs.YtlofiplkmgmnfaaC

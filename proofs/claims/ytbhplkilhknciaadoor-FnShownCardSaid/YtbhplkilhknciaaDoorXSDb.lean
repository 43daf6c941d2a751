/- Drawn nets are right. Conditions: none. -/
import Derived.Test.YtbhplkilhknciaaDoorXSDa
namespace Go.Proofs.YtbhplkilhknciaaDoorC
open Int (reduceLE reduceLT reduceEq reduceGT reduceGE reduceAdd reduceSub reduceMul reduceNeg)
set_option linter.unusedVariables false
set_option linter.unusedSimpArgs false
def putG {α:Type} (lt:α→α→Bool) (L:List α) (x:α):List α:=L.filter (fun y=>lt y x)++[x]++L.filter (fun y=>lt x y)
theorem putG_len {α:Type} {lt:α→α→Bool} (as:∀ a b,lt a b=true→lt b a=false) (L:List α) (x:α):(putG lt L x).length≤L.length+1:=by
 have:∀ L:List α,(L.filter (fun y=>lt y x)).length+(L.filter (fun y=>lt x y)).length≤L.length:=by
  intro L
  induction L with
  | nil=>simp
  | cons y L ih =>
   have:=as y x
   cases h1:lt y x <;> cases h2:lt x y <;> simp_all <;> omega
 have:=this L
 simp only [putG,List.length_append,List.length_singleton];omega
theorem putG_asc {α:Type} [Inhabited α] {ok:α→Bool} {lt:α→α→Bool} (tr:∀ a b c,lt a b=true→lt b c=true→lt a c=true) {L:List α} (h:ascB ok lt L=true) (hok:∀ y∈L,ok y=true) {x:α} (hx:ok x=true):ascB ok lt (putG lt L x)=true:=by
 have hp:=asc_pairs tr h
 refine asc_of (fun y hy=>?_) ?_
 ·simp only [putG,List.mem_append,List.mem_filter,List.mem_singleton] at hy
  rcases hy with (hy | hy) | hy
  ·exact hok y hy.1
  ·rw [hy];exact hx
  ·exact hok y hy.1
 ·unfold putG
  rw [List.pairwise_append,List.pairwise_append]
  refine ⟨⟨hp.filter _,List.pairwise_singleton _ _,?_⟩,hp.filter _,?_⟩
  ·intro a ha b hb
   rw [List.mem_singleton] at hb
   rw [hb];exact (List.mem_filter.1 ha).2
  ·intro a ha b hb
   have hb:=(List.mem_filter.1 hb).2
   rcases List.mem_append.1 ha with ha | ha
   ·exact tr _ _ _ (List.mem_filter.1 ha).2 hb
   ·rw [List.mem_singleton] at ha
    rw [ha];exact hb
theorem asc_all {α:Type} [Inhabited α] {ok:α→Bool} {lt:α→α→Bool} {l:List α} (h:ascB ok lt l=true):∀ x∈l,ok x=true:=by
 intro x hx
 obtain ⟨i,hi,rfl⟩:=List.mem_iff_getElem.1 hx
 have:=allB_iff.1 h i hi
 simp only [Bool.and_eq_true] at this
 have h1:=this.1
 rwa [gt_elem hi] at h1
theorem linkLt_tr (a b c:Link) (h1:linkLt a b=true) (h2:linkLt b c=true):linkLt a c=true:=by simp only [linkLt,decide_eq_true_eq] at *;omega
theorem linkLt_as (a b:Link) (h1:linkLt a b=true):linkLt b a=false:=by simp only [linkLt,decide_eq_true_eq,decide_eq_false_iff_not] at *;omega
theorem thingLt_tr (a b c:Thing) (h1:thingLt a b=true) (h2:thingLt b c=true):thingLt a c=true:=by simp only [thingLt,decide_eq_true_eq] at *;omega
theorem thingLt_as (a b:Thing) (h1:thingLt a b=true):thingLt b a=false:=by simp only [thingLt,decide_eq_true_eq,decide_eq_false_iff_not] at *;omega
theorem e_s_l03Put (L:List Link) (a b c d:Int) (h:L.length≤1048576):F_s_l03Put [.l (L.map eLink),ii a,ii b,ii c,ii d]=some [.l ((putG linkLt L ⟨a,b,c,d⟩).map eLink)]:=by
 rw [g_s_l03Put];simp (disch:=omega) only [↓pq,↓pj,ps,pz,↓reduceIte,reduceLE,reduceLT,reduceEq,reduceGT,reduceGE,reduceAdd,reduceSub,reduceMul,reduceNeg,G_s_l03Put_l0,G_s_l03Put_l1,G_s_l03Put]
 refine (iter_foldlx L (fun i K=>[.l (K.map eLink),ii i]) (fun K y=>if linkLt y (⟨a,b,c,d⟩:Link)=true then K++[y] else K) (fun K=>if K.length≤L.length then some [T.l ((K++[(⟨a,b,c,d⟩:Link)]++L.filter (fun y=>linkLt (⟨a,b,c,d⟩:Link) y)).map eLink)] else none) [] (fun i K=>K.length≤i) rfl (rounds_lt h) (by simp) ?_ ?_).trans ?_
 ·intro i K hi hK
  refine ⟨by split <;> (try simp) <;> omega,fun q=>?_⟩
  cases hb:linkLt (gt L (i:Int)) ⟨a,b,c,d⟩ with
  | true=>simp (disch:=omega) only [↓pq,↓pj,ps,pz,↓reduceIte,reduceLE,reduceLT,reduceEq,reduceGT,reduceGE,reduceAdd,reduceSub,reduceMul,reduceNeg,G_s_l03Put_l0,G_s_l03Put_l1,hi,e_s_l03Ahead,hb]
  | false=>simp (disch:=omega) only [↓pq,↓pj,ps,pz,↓reduceIte,reduceLE,reduceLT,reduceEq,reduceGT,reduceGE,reduceAdd,reduceSub,reduceMul,reduceNeg,G_s_l03Put_l0,G_s_l03Put_l1,hi,e_s_l03Ahead,hb,Bool.false_eq_true]
 ·intro K q hK
  rw [if_pos (by omega)]
  simp (disch:=omega) only [↓pq,↓pj,ps,pz,↓reduceIte,reduceLE,reduceLT,reduceEq,reduceGT,reduceGE,reduceAdd,reduceSub,reduceMul,reduceNeg,G_s_l03Put_l0,G_s_l03Put_l1,]
  refine (iter_foldlx L (fun i K=>[.l (K.map eLink),ii i]) (fun K y=>if linkLt (⟨a,b,c,d⟩:Link) y=true then K++[y] else K) (fun K=>some [T.l (K.map eLink)]) (K++[⟨a,b,c,d⟩]) (fun i K=>K.length≤L.length+1+i) rfl (rounds_lt h) (by simp;omega) ?_ ?_).trans (by rw [foldl_filter])
  ·intro i K hi hK
   refine ⟨by split <;> (try simp) <;> omega,fun q=>?_⟩
   cases hb:linkLt ⟨a,b,c,d⟩ (gt L (i:Int)) with
   | true=>simp (disch:=omega) only [↓pq,↓pj,ps,pz,↓reduceIte,reduceLE,reduceLT,reduceEq,reduceGT,reduceGE,reduceAdd,reduceSub,reduceMul,reduceNeg,G_s_l03Put_l0,G_s_l03Put_l1,hi,e_s_l03Ahead,hb]
   | false=>simp (disch:=omega) only [↓pq,↓pj,ps,pz,↓reduceIte,reduceLE,reduceLT,reduceEq,reduceGT,reduceGE,reduceAdd,reduceSub,reduceMul,reduceNeg,G_s_l03Put_l0,G_s_l03Put_l1,hi,e_s_l03Ahead,hb,Bool.false_eq_true]
  ·intro K q hK
   simp (disch:=omega) only [↓pq,↓pj,ps,pz,↓reduceIte,reduceLE,reduceLT,reduceEq,reduceGT,reduceGE,reduceAdd,reduceSub,reduceMul,reduceNeg,G_s_l03Put_l0,G_s_l03Put_l1,]
 ·rw [foldl_filter,List.nil_append,if_pos (List.length_filter_le _ _)]
  rfl
theorem ear_thing (a b c:Int) (d:Bool):List.map eEar [⟨a,b,c,d⟩]=List.map eThing [⟨a,b,c,d⟩]:=rfl
theorem e_s_l03PutThing (L:List Thing) (a b c:Int) (d:Bool) (h:L.length≤1048576):F_s_l03PutThing [.l (L.map eThing),ii a,ii b,ii c,bb d]=some [.l ((putG thingLt L ⟨a,b,c,d⟩).map eThing)]:=by
 rw [g_s_l03PutThing];simp (disch:=omega) only [↓pq,↓pj,ps,pz,↓reduceIte,reduceLE,reduceLT,reduceEq,reduceGT,reduceGE,reduceAdd,reduceSub,reduceMul,reduceNeg,G_s_l03PutThing_l0,G_s_l03PutThing_l1,G_s_l03PutThing]
 refine (iter_foldlx L (fun i K=>[.l (K.map eThing),ii i]) (fun K y=>if thingLt y (⟨a,b,c,d⟩:Thing)=true then K++[y] else K) (fun K=>if K.length≤L.length then some [T.l ((K++[(⟨a,b,c,d⟩:Thing)]++L.filter (fun y=>thingLt (⟨a,b,c,d⟩:Thing) y)).map eThing)] else none) [] (fun i K=>K.length≤i) rfl (rounds_lt h) (by simp) ?_ ?_).trans ?_
 ·intro i K hi hK
  refine ⟨by split <;> (try simp) <;> omega,fun q=>?_⟩
  cases hb:thingLt (gt L (i:Int)) ⟨a,b,c,d⟩ with
  | true=>simp (disch:=omega) only [↓pq,↓pj,ps,pz,↓reduceIte,reduceLE,reduceLT,reduceEq,reduceGT,reduceGE,reduceAdd,reduceSub,reduceMul,reduceNeg,G_s_l03PutThing_l0,G_s_l03PutThing_l1,hi,e_s_l03Thing,hb,ear_thing]
  | false=>simp (disch:=omega) only [↓pq,↓pj,ps,pz,↓reduceIte,reduceLE,reduceLT,reduceEq,reduceGT,reduceGE,reduceAdd,reduceSub,reduceMul,reduceNeg,G_s_l03PutThing_l0,G_s_l03PutThing_l1,hi,e_s_l03Thing,hb,Bool.false_eq_true,ear_thing]
 ·intro K q hK
  rw [if_pos (by omega)]
  simp (disch:=omega) only [↓pq,↓pj,ps,pz,↓reduceIte,reduceLE,reduceLT,reduceEq,reduceGT,reduceGE,reduceAdd,reduceSub,reduceMul,reduceNeg,G_s_l03PutThing_l0,G_s_l03PutThing_l1,ear_thing]
  refine (iter_foldlx L (fun i K=>[.l (K.map eThing),ii i]) (fun K y=>if thingLt (⟨a,b,c,d⟩:Thing) y=true then K++[y] else K) (fun K=>some [T.l (K.map eThing)]) (K++[⟨a,b,c,d⟩]) (fun i K=>K.length≤L.length+1+i) rfl (rounds_lt h) (by simp;omega) ?_ ?_).trans (by rw [foldl_filter])
  ·intro i K hi hK
   refine ⟨by split <;> (try simp) <;> omega,fun q=>?_⟩
   cases hb:thingLt ⟨a,b,c,d⟩ (gt L (i:Int)) with
   | true=>simp (disch:=omega) only [↓pq,↓pj,ps,pz,↓reduceIte,reduceLE,reduceLT,reduceEq,reduceGT,reduceGE,reduceAdd,reduceSub,reduceMul,reduceNeg,G_s_l03PutThing_l0,G_s_l03PutThing_l1,hi,e_s_l03Thing,hb,ear_thing]
   | false=>simp (disch:=omega) only [↓pq,↓pj,ps,pz,↓reduceIte,reduceLE,reduceLT,reduceEq,reduceGT,reduceGE,reduceAdd,reduceSub,reduceMul,reduceNeg,G_s_l03PutThing_l0,G_s_l03PutThing_l1,hi,e_s_l03Thing,hb,Bool.false_eq_true,ear_thing]
  ·intro K q hK
   simp (disch:=omega) only [↓pq,↓pj,ps,pz,↓reduceIte,reduceLE,reduceLT,reduceEq,reduceGT,reduceGE,reduceAdd,reduceSub,reduceMul,reduceNeg,G_s_l03PutThing_l0,G_s_l03PutThing_l1,]
 ·rw [foldl_filter,List.nil_append,if_pos (List.length_filter_le _ _)]
  rfl
def OkLs (n:Int) (L:List Link):Prop:=ascB (linkOk n) linkLt L=true∧L.length≤12
def OkTs (n:Int) (L:List Thing):Prop:=ascB (thingOk n) thingLt L=true
theorem OkLs.put {n:Int} {L:List Link} (h:OkLs n L) (hl:L.length < 12) {a b c d:Int} (hn:2≤n∧n≤6) (ha:1≤a) (hab:a < b) (hb:b≤n) (hc:1≤c∧c≤1000) (hd:0≤d∧d≤2):OkLs n (putG linkLt L ⟨a,b,c,d⟩):=by
 refine ⟨putG_asc linkLt_tr h.1 (asc_all h.1) ?_,?_⟩
 ·simp only [linkOk,inB,Bool.and_eq_true,decide_eq_true_eq];omega
 ·have:=putG_len linkLt_as L ⟨a,b,c,d⟩
  omega
theorem OkTs.put {n:Int} {L:List Thing} (h:OkTs n L) {a b c:Int} {d:Bool} (ha:1≤a∧a≤n) (hb:1≤b∧b≤9) (hc:1≤c∧c≤1000):OkTs n (putG thingLt L ⟨a,b,c,d⟩):=by
 refine putG_asc thingLt_tr h (asc_all h) ?_
 simp only [thingOk,inB,Bool.and_eq_true,decide_eq_true_eq];omega
theorem OkLs.nil {n:Int}:OkLs n []:=⟨rfl,by simp⟩
theorem OkTs.nil {n:Int}:OkTs n []:=rfl
theorem lit4_Int (a b c d:Int):Prim.ev (.lit 1 [true,true,true,true]) [ii a,ii b,ii c,ii d]=some (.l ([a,b,c,d].map eInt)):=by simp [Prim.ev,masked,chunks,scal,eInt]
theorem e_s_l03Net {B:List Int} (hB:∀ x∈B,OkByte x) (hl:B.length≤1048576) {i:Int} (h:Int) (hi:0≤i) (hi':i≤B.length) :
  ∃ (x:Net) (i' h':Int),F_s_l03Net [.l (B.map eByte),ii i,ii h]=some [ii x.n,.l (x.links.map eLink),.l (x.things.map eThing),.l (B.map eByte),ii i',ii h']∧(netOk x=true∧2≤x.n∧x.things.length≤2)∧0≤i'∧i'≤B.length:=by
 rw [g_s_l03Net]
 obtain ⟨n0,i,h,e,hn,hi,hi'⟩:=e_s_l01Below hB hl h hi hi' 4 (by omega) (by omega)
 simp (disch:=omega) only [↓pq,↓pj,ps,pz,↓reduceIte,reduceLE,reduceLT,reduceEq,reduceGT,reduceGE,reduceAdd,reduceSub,reduceMul,reduceNeg,G_s_l03Net_l0,G_s_l03Net_l1,G_s_l03Net,e]
 obtain ⟨n,hnn⟩:∃ n,n=2+n0:=⟨_,rfl⟩
 rw [← hnn]
 have hn2:2≤n∧n≤6:=by omega
 clear hnn e hn
 refine iter_post (fun o=>∃ (x:Net) (i' h':Int),o=some [ii x.n,.l (x.links.map eLink),.l (x.things.map eThing),.l (B.map eByte),ii i',ii h']∧(netOk x=true∧2≤x.n∧x.things.length≤2)∧0≤i'∧i'≤B.length)
  (fun m s=>∃ (k:Nat) (i h:Int) (L:List Link),s=[ii k,.l (B.map eByte),ii i,ii h,.l (L.map eLink)]∧k≤8∧(0≤i∧i≤B.length)∧OkLs n L∧m=8 - k) ?_ 8 _ rounds ⟨0,i,h,[],rfl,by omega,⟨hi,hi'⟩,OkLs.nil,rfl⟩ (by unfold rounds;omega)
 rintro m s q ⟨k,i,h,L,rfl,hk,⟨hi,hi'⟩,hL,rfl⟩ hq
 obtain ⟨d,i,h,e,hd,hi,hi'⟩:=e_s_l01Below hB hl h hi hi' 3 (by omega) (by omega)
 by_cases hc:(k:Int) < n+d
 ·have hq:∀ (i h:Int) (L:List Link),(0≤i∧i≤B.length)→OkLs n L→_:=fun i h L hi hL=>hq (8 - (k+1)) [ii (k+1),.l (B.map eByte),ii i,ii h,.l (L.map eLink)] (by omega) ⟨k+1,i,h,L,by rw [cast_S],by omega,hi,hL,rfl⟩
  obtain ⟨x,i,h,e1,hx,hi,hi'⟩:=e_s_l01Below hB hl h hi hi' n (by omega) (by omega)
  obtain ⟨y,i,h,e2,hy,hi,hi'⟩:=e_s_l01Below hB hl h hi hi' n (by omega) (by omega)
  obtain ⟨c,i,h,e3,hcc,hi,hi'⟩:=e_s_l01Below hB hl h hi hi' 4 (by omega) (by omega)
  obtain ⟨z,i,h,e4,hz,hi,hi'⟩:=e_s_l01PickInt hB hl h hi hi' [0,0,1,2] (by simp) (by simp)
  have hz:0≤z∧z≤2:=by simp at hz;omega
  have hpl:=fun a b=>e_s_l03Put L a b (1+c) z (by have:=hL.2;omega)
  have fin:∀ a b:Int,1≤a→a < b→b≤n→∀ hl:L.length < 12,OkLs n (putG linkLt L ⟨a,b,1+c,z⟩):=fun a b h1 h2 h3 h4=>hL.put h4 hn2 h1 h2 h3 (by omega) hz
  have hl12:((L.length:Nat):Int) < 12↔L.length < 12:=by omega
  have hr:=Int.tmod_nonneg n (show 0≤1+x by omega)
  have hr2:=Int.tmod_lt_of_pos (1+x) (show 0 < n by omega)
  by_cases c1:(k:Int)+1 < n
  ·have g1:¬ ((k:Int)+1=k+2):=by omega
   have g2:¬ ((k:Int)+1 > k+2):=by omega
   by_cases c4:(L.length:Int) < 12
   ·simp (disch:=omega) only [↓pq,↓pj,ps,pz,↓reduceIte,reduceLE,reduceLT,reduceEq,reduceGT,reduceGE,reduceAdd,reduceSub,reduceMul,reduceNeg,G_s_l03Net_l0,G_s_l03Net_l1,e,hc,e1,e2,c1,g1,g2,lit4_Int,e3,e4,c4,hpl]
    exact hq i h _ ⟨hi,hi'⟩ (fin _ _ (by omega) (by omega) (by omega) (by omega))
   ·simp (disch:=omega) only [↓pq,↓pj,ps,pz,↓reduceIte,reduceLE,reduceLT,reduceEq,reduceGT,reduceGE,reduceAdd,reduceSub,reduceMul,reduceNeg,G_s_l03Net_l0,G_s_l03Net_l1,e,hc,e1,e2,c1,g1,g2,lit4_Int,e3,e4,c4]
    exact hq i h _ ⟨hi,hi'⟩ hL
  ·by_cases c2:(1:Int)+x=1+y
   ·have hz0:n≠0:=by omega
    by_cases c3:1+x=n
    ·have hrv:(1+x).tmod n=0:=by rw [c3];exact Int.tmod_self
     have g3:(1:Int)+x > 1:=by omega
     rw [c2] at hrv g3
     by_cases c4:(L.length:Int) < 12
     ·simp (disch:=omega) only [↓pq,↓pj,ps,pz,↓reduceIte,reduceLE,reduceLT,reduceEq,reduceGT,reduceGE,reduceAdd,reduceSub,reduceMul,reduceNeg,G_s_l03Net_l0,G_s_l03Net_l1,e,hc,e1,e2,c1,c2,hz0,hrv,g3,lit4_Int,e3,e4,c4,hpl]
      exact hq i h _ ⟨hi,hi'⟩ (fin _ _ (by omega) (by omega) (by omega) (by omega))
     ·simp (disch:=omega) only [↓pq,↓pj,ps,pz,↓reduceIte,reduceLE,reduceLT,reduceEq,reduceGT,reduceGE,reduceAdd,reduceSub,reduceMul,reduceNeg,G_s_l03Net_l0,G_s_l03Net_l1,e,hc,e1,e2,c1,c2,hz0,hrv,g3,lit4_Int,e3,e4,c4]
      exact hq i h _ ⟨hi,hi'⟩ hL
    ·have hrv:(1+x).tmod n=1+x:=by
      rw [Int.tmod_eq_emod_of_nonneg (by omega)]
      exact Int.emod_eq_of_lt (by omega) (by omega)
     have g3:¬ ((1:Int)+x > 1+x+1):=by omega
     rw [c2] at hrv g3
     by_cases c4:(L.length:Int) < 12
     ·simp (disch:=omega) only [↓pq,↓pj,ps,pz,↓reduceIte,reduceLE,reduceLT,reduceEq,reduceGT,reduceGE,reduceAdd,reduceSub,reduceMul,reduceNeg,G_s_l03Net_l0,G_s_l03Net_l1,e,hc,e1,e2,c1,c2,hz0,hrv,g3,lit4_Int,e3,e4,c4,hpl]
      exact hq i h _ ⟨hi,hi'⟩ (fin _ _ (by omega) (by omega) (by omega) (by omega))
     ·simp (disch:=omega) only [↓pq,↓pj,ps,pz,↓reduceIte,reduceLE,reduceLT,reduceEq,reduceGT,reduceGE,reduceAdd,reduceSub,reduceMul,reduceNeg,G_s_l03Net_l0,G_s_l03Net_l1,e,hc,e1,e2,c1,c2,hz0,hrv,g3,lit4_Int,e3,e4,c4]
      exact hq i h _ ⟨hi,hi'⟩ hL
   ·by_cases c3:(1:Int)+x > 1+y
    ·by_cases c4:(L.length:Int) < 12
     ·simp (disch:=omega) only [↓pq,↓pj,ps,pz,↓reduceIte,reduceLE,reduceLT,reduceEq,reduceGT,reduceGE,reduceAdd,reduceSub,reduceMul,reduceNeg,G_s_l03Net_l0,G_s_l03Net_l1,e,hc,e1,e2,c1,c2,c3,lit4_Int,e3,e4,c4,hpl]
      exact hq i h _ ⟨hi,hi'⟩ (fin _ _ (by omega) (by omega) (by omega) (by omega))
     ·simp (disch:=omega) only [↓pq,↓pj,ps,pz,↓reduceIte,reduceLE,reduceLT,reduceEq,reduceGT,reduceGE,reduceAdd,reduceSub,reduceMul,reduceNeg,G_s_l03Net_l0,G_s_l03Net_l1,e,hc,e1,e2,c1,c2,c3,lit4_Int,e3,e4,c4]
      exact hq i h _ ⟨hi,hi'⟩ hL
    ·by_cases c4:(L.length:Int) < 12
     ·simp (disch:=omega) only [↓pq,↓pj,ps,pz,↓reduceIte,reduceLE,reduceLT,reduceEq,reduceGT,reduceGE,reduceAdd,reduceSub,reduceMul,reduceNeg,G_s_l03Net_l0,G_s_l03Net_l1,e,hc,e1,e2,c1,c2,c3,lit4_Int,e3,e4,c4,hpl]
      exact hq i h _ ⟨hi,hi'⟩ (fin _ _ (by omega) (by omega) (by omega) (by omega))
     ·simp (disch:=omega) only [↓pq,↓pj,ps,pz,↓reduceIte,reduceLE,reduceLT,reduceEq,reduceGT,reduceGE,reduceAdd,reduceSub,reduceMul,reduceNeg,G_s_l03Net_l0,G_s_l03Net_l1,e,hc,e1,e2,c1,c2,c3,lit4_Int,e3,e4,c4]
      exact hq i h _ ⟨hi,hi'⟩ hL
 ·simp (disch:=omega) only [↓pq,↓pj,ps,pz,↓reduceIte,reduceLE,reduceLT,reduceEq,reduceGT,reduceGE,reduceAdd,reduceSub,reduceMul,reduceNeg,G_s_l03Net_l0,G_s_l03Net_l1,e,hc]
  refine iter_post (fun o=>∃ (x:Net) (i' h':Int),o=some [ii x.n,.l (x.links.map eLink),.l (x.things.map eThing),.l (B.map eByte),ii i',ii h']∧(netOk x=true∧2≤x.n∧x.things.length≤2)∧0≤i'∧i'≤B.length)
   (fun m s=>∃ (k:Nat) (i h:Int) (K:List Thing),s=[ii k,.l (B.map eByte),ii i,ii h,.l (K.map eThing)]∧k≤2∧(0≤i∧i≤B.length)∧OkTs n K∧K.length≤k∧m=2 - k) ?_ 2 _ rounds ⟨0,i,h,[],rfl,by omega,⟨hi,hi'⟩,OkTs.nil,by simp,rfl⟩ (by unfold rounds;omega)
  rintro m s q ⟨k,i,h,K,rfl,hk,⟨hi,hi'⟩,hK,hKl,rfl⟩ hq
  obtain ⟨d,i,h,e,hd,hi,hi'⟩:=e_s_l01Below hB hl h hi hi' 3 (by omega) (by omega)
  by_cases hc:(k:Int) < d
  ·obtain ⟨x,i,h,e1,hx,hi,hi'⟩:=e_s_l01Below hB hl h hi hi' n (by omega) (by omega)
   obtain ⟨y,i,h,e2,hy,hi,hi'⟩:=e_s_l01Below hB hl h hi hi' 3 (by omega) (by omega)
   obtain ⟨c,i,h,e3,hcc,hi,hi'⟩:=e_s_l01Below hB hl h hi hi' 5 (by omega) (by omega)
   obtain ⟨f,i,h,e4,hi,hi'⟩:=e_s_l01Once hB hl h hi hi' 2 (by omega) (by omega)
   have hpl:=e_s_l03PutThing K (1+x) (1+y) (1+c) f (by omega)
   have:=putG_len thingLt_as K ⟨1+x,1+y,1+c,f⟩
   simp (disch:=omega) only [↓pq,↓pj,ps,pz,↓reduceIte,reduceLE,reduceLT,reduceEq,reduceGT,reduceGE,reduceAdd,reduceSub,reduceMul,reduceNeg,G_s_l03Net_l0,G_s_l03Net_l1,e,hc,e1,e2,e3,e4,hpl]
   exact hq (2 - (k+1)) _ (by omega) ⟨k+1,i,h,_,by rw [cast_S],by omega,⟨hi,hi'⟩,hK.put (by omega) (by omega) (by omega),by omega,rfl⟩
  ·simp (disch:=omega) only [↓pq,↓pj,ps,pz,↓reduceIte,reduceLE,reduceLT,reduceEq,reduceGT,reduceGE,reduceAdd,reduceSub,reduceMul,reduceNeg,G_s_l03Net_l0,G_s_l03Net_l1,e,hc]
   refine ⟨⟨n,L,K⟩,i,h,rfl,⟨?_,hn2.1,by show K.length≤2;omega⟩,hi,hi'⟩
   unfold netOk
   simp only [Bool.and_eq_true,decide_eq_true_eq]
   exact ⟨⟨⟨⟨inB_iff.2 (by omega),hL.2⟩,by show K.length≤4;omega⟩,hL.1⟩,hK⟩
end Go.Proofs.YtbhplkilhknciaaDoorC

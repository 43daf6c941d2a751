/- Drawn nets with links and nodes that are down; drawn places. Conditions: none. -/
import Derived.Test.YtlofiplkmgmnfaaXSDb
namespace Go.Proofs.YtlofiplkmgmnfaaC
open Int (reduceLE reduceLT reduceEq reduceGT reduceGE reduceAdd reduceSub reduceMul reduceNeg)
set_option linter.unusedVariables false
set_option linter.unusedSimpArgs false
theorem netOk_n {x:Net} (h:netOk x=true):1≤x.n∧x.n≤6:=by
 unfold netOk at h
 simp only [Bool.and_eq_true] at h
 exact inB_iff.1 h.1.1.1.1
def RightP (B:List Int) (o:Option (List T)):Prop :=
 ∃ (x:Net) (L U:List Bool),o=some [ii x.n,.l (x.links.map eLink),.l (x.things.map eThing),.l (L.map eBool),.l (U.map eBool)]∧netOk x=true∧2≤x.n∧x.things.length≤2∧L.length=x.links.length∧(U.length:Int)=x.n
theorem right_tail {B:List Int} (hB:∀ x∈B,OkByte x) (hl:B.length≤1048576) {x:Net} (hx:netOk x=true∧2≤x.n∧x.things.length≤2) {i h:Int} (hi:0≤i) (hi':i≤B.length) :
  RightP B (iter (G_s_DrawRightNet_l1 rounds F_s_l01Once (ii x.n) (.l (x.links.map eLink)) (.l (x.things.map eThing)) (.l [])) rounds [.l [],ii 0,.l (B.map eByte),ii i,ii h]):=by
 have hn:=netOk_n hx.1
 have hll:=(netOk_links hx.1).2
 refine iter_post (RightP B) (fun m s=>∃ (k:Nat) (i h:Int) (L:List Bool),s=[.l (L.map eBool),ii k,.l (B.map eByte),ii i,ii h]∧k≤x.links.length∧(0≤i∧i≤B.length)∧L.length=k∧m=x.links.length - k) ?_ x.links.length _ rounds ⟨0,i,h,[],rfl,by omega,⟨hi,hi'⟩,rfl,rfl⟩ (by unfold rounds;omega)
 rintro m s q ⟨k,i,h,L,rfl,hk,⟨hi,hi'⟩,hL,rfl⟩ hq
 by_cases hc:(k:Int) < x.links.length
 ·obtain ⟨f,i,h,e,hi,hi'⟩:=e_s_l01Once hB hl h hi hi' 6 (by omega) (by omega)
  simp (disch:=omega) only [↓pq,↓pj,ps,pz,↓reduceIte,reduceLE,reduceLT,reduceEq,reduceGT,reduceGE,reduceAdd,reduceSub,reduceMul,reduceNeg,G_s_DrawRightNet_l0,G_s_DrawRightNet_l1,G_s_DrawRightNet_l2,G_s_DrawRightNet_l3,G_s_DrawRightNet_l4,G_s_DrawRightNet_l1,hc,e]
  exact hq (x.links.length - (k+1)) _ (by omega) ⟨k+1,i,h,_,by rw [cast_S],by omega,⟨hi,hi'⟩,by simp [hL],rfl⟩
 ·simp (disch:=omega) only [↓pq,↓pj,ps,pz,↓reduceIte,reduceLE,reduceLT,reduceEq,reduceGT,reduceGE,reduceAdd,reduceSub,reduceMul,reduceNeg,G_s_DrawRightNet_l0,G_s_DrawRightNet_l1,G_s_DrawRightNet_l2,G_s_DrawRightNet_l3,G_s_DrawRightNet_l4,G_s_DrawRightNet_l1,hc]
  refine iter_post (RightP B) (fun m s=>∃ (k:Nat) (i h:Int) (U:List Bool),s=[.l (U.map eBool),ii k,.l (B.map eByte),ii i,ii h]∧(k:Int)≤x.n∧(0≤i∧i≤B.length)∧U.length=k∧m=x.n.toNat - k) ?_ x.n.toNat _ rounds ⟨0,i,h,[],rfl,by omega,⟨hi,hi'⟩,rfl,rfl⟩ (by unfold rounds;omega)
  rintro m s q ⟨j,i,h,U,rfl,hj,⟨hi,hi'⟩,hU,rfl⟩ hq
  by_cases hc2:(j:Int) < x.n
  ·obtain ⟨f,i,h,e,hi,hi'⟩:=e_s_l01Once hB hl h hi hi' 8 (by omega) (by omega)
   simp (disch:=omega) only [↓pq,↓pj,ps,pz,↓reduceIte,reduceLE,reduceLT,reduceEq,reduceGT,reduceGE,reduceAdd,reduceSub,reduceMul,reduceNeg,G_s_DrawRightNet_l0,G_s_DrawRightNet_l1,G_s_DrawRightNet_l2,G_s_DrawRightNet_l3,G_s_DrawRightNet_l4,G_s_DrawRightNet_l0,hc2,e]
   exact hq (x.n.toNat - (j+1)) _ (by omega) ⟨j+1,i,h,_,by rw [cast_S],by omega,⟨hi,hi'⟩,by simp [hU],rfl⟩
  ·simp (disch:=omega) only [↓pq,↓pj,ps,pz,↓reduceIte,reduceLE,reduceLT,reduceEq,reduceGT,reduceGE,reduceAdd,reduceSub,reduceMul,reduceNeg,G_s_DrawRightNet_l0,G_s_DrawRightNet_l1,G_s_DrawRightNet_l2,G_s_DrawRightNet_l3,G_s_DrawRightNet_l4,G_s_DrawRightNet_l0,hc2]
   exact ⟨x,L,U,rfl,hx.1,hx.2.1,hx.2.2,by omega,by omega⟩
theorem step131 {B:List Int} (hB:∀ x∈B,OkByte x) (hl:B.length≤1048576) (h:Int) {k:Nat} (hc:(k:Int) < B.length) :
  ∃ m a c d,Prim.ev (.bin .mul) [ii h,ii 131]=some (ii m)∧Prim.ev .bnd [.l (B.map eByte),ii k]=some (bb true)∧Prim.ev (.cell 1 0) [.l (B.map eByte),ii k]=some (u8 (gt B k))∧Prim.ev (.cnv .i64) [u8 (gt B k)]=some (ii (gt B k)) ∧
   Prim.ev (.bin .add) [ii m,ii (gt B k)]=some (ii a)∧Prim.ev (.bin .add) [ii a,ii 7]=some (ii c)∧Prim.ev (.bin .and) [ii c,ii 1073741823]=some (ii d):=by
 have hx:=hB _ (gt_mem (l:=B) (n:=(k:Int)) (by omega) hc)
 obtain ⟨m,hm⟩:∃ m,Prim.ev (.bin .mul) [ii h,ii 131]=some (ii m):=⟨_,ev_mul _ _ _⟩
 obtain ⟨a,ha⟩:∃ a,Prim.ev (.bin .add) [ii m,ii (gt B k)]=some (ii a):=⟨_,ev_add _ _ _⟩
 obtain ⟨c,hcc⟩:∃ c,Prim.ev (.bin .add) [ii a,ii 7]=some (ii c):=⟨_,ev_add _ _ _⟩
 obtain ⟨d,hd⟩:=ev_andw c 1073741823
 exact ⟨m,a,c,d,hm,ev_bndZ (by omega) hc,cell_Byte (by omega) hc,ev_cnv8 hx.1 hx.2,ha,hcc,hd⟩
theorem e_s_DrawRightNet {B:List Int} (hB:∀ x∈B,OkByte x) (hl:B.length≤1048576):RightP B (F_s_DrawRightNet [.l (B.map eByte)]):=by
 rw [g_s_DrawRightNet]
 have hn:Prim.ev .len [.l (B.map eByte)]=some (ii B.length):=ev_lenM
 simp (disch:=omega) only [↓pq,↓pj,ps,pz,↓reduceIte,reduceLE,reduceLT,reduceEq,reduceGT,reduceGE,reduceAdd,reduceSub,reduceMul,reduceNeg,G_s_DrawRightNet_l0,G_s_DrawRightNet_l1,G_s_DrawRightNet_l2,G_s_DrawRightNet_l3,G_s_DrawRightNet_l4,G_s_DrawRightNet,hn]
 refine new_post hB hl (Post:=RightP B) ?_ ?_ _
 ·intro q h k c1 c2
  obtain ⟨m,a,c,d,e1,e2,e3,e4,e5,e6,e7⟩:=step131 hB hl h c1
  exact ⟨d,by simp (disch:=omega) only [↓pq,↓pj,ps,pz,↓reduceIte,reduceLE,reduceLT,reduceEq,reduceGT,reduceGE,reduceAdd,reduceSub,reduceMul,reduceNeg,G_s_DrawRightNet_l0,G_s_DrawRightNet_l1,G_s_DrawRightNet_l2,G_s_DrawRightNet_l3,G_s_DrawRightNet_l4,hn,c1,c2,e1,e2,e3,e4,e5,e6,e7]⟩
 ·intro q h k hk
  obtain ⟨x,i,h',e,hx,hi,hi'⟩:=e_s_l03Net hB hl h (i:=0) (by omega) (by omega)
  by_cases c1:(k:Int) < B.length
  ·have c2:¬ (k:Int) < 4000:=by omega
   simp (disch:=omega) only [↓pq,↓pj,ps,pz,↓reduceIte,reduceLE,reduceLT,reduceEq,reduceGT,reduceGE,reduceAdd,reduceSub,reduceMul,reduceNeg,G_s_DrawRightNet_l0,G_s_DrawRightNet_l1,G_s_DrawRightNet_l2,G_s_DrawRightNet_l3,G_s_DrawRightNet_l4,hn,c1,c2,e]
   exact right_tail hB hl hx hi hi'
  ·simp (disch:=omega) only [↓pq,↓pj,ps,pz,↓reduceIte,reduceLE,reduceLT,reduceEq,reduceGT,reduceGE,reduceAdd,reduceSub,reduceMul,reduceNeg,G_s_DrawRightNet_l0,G_s_DrawRightNet_l1,G_s_DrawRightNet_l2,G_s_DrawRightNet_l3,G_s_DrawRightNet_l4,hn,c1,e]
   exact right_tail hB hl hx hi hi'
def PlacesP (o:Option (List T)):Prop:=∃ l:List Int,o=some [.l (l.map eInt)]∧l.length=12∧∀ x∈l,0≤x∧x < 10000
theorem places_tail {B:List Int} (hB:∀ x∈B,OkByte x) (hl:B.length≤1048576) {i h:Int} (hi:0≤i) (hi':i≤B.length) :
  PlacesP (iter (G_s_DrawPlaces_l0 F_s_l01Below) rounds [.l [],ii 0,.l (B.map eByte),ii i,ii h]):=by
 refine iter_post PlacesP (fun m s=>∃ (k:Nat) (i h:Int) (L:List Int),s=[.l (L.map eInt),ii k,.l (B.map eByte),ii i,ii h]∧k≤12∧(0≤i∧i≤B.length)∧L.length=k∧(∀ x∈L,0≤x∧x < 10000)∧m=12 - k) ?_ 12 _ rounds ⟨0,i,h,[],rfl,by omega,⟨hi,hi'⟩,rfl,by simp,rfl⟩ (by unfold rounds;omega)
 rintro m s q ⟨k,i,h,L,rfl,hk,⟨hi,hi'⟩,hL,hA,rfl⟩ hq
 by_cases hc:(k:Int) < 12
 ·obtain ⟨x,i,h,e,hx,hi,hi'⟩:=e_s_l01Below hB hl h hi hi' 10000 (by omega) (by omega)
  simp (disch:=omega) only [↓pq,↓pj,ps,pz,↓reduceIte,reduceLE,reduceLT,reduceEq,reduceGT,reduceGE,reduceAdd,reduceSub,reduceMul,reduceNeg,G_s_DrawPlaces_l0,G_s_DrawPlaces_l1,G_s_DrawPlaces_l2,G_s_DrawPlaces_l0,hc,e]
  refine hq (12 - (k+1)) _ (by omega) ⟨k+1,i,h,_,by rw [cast_S],by omega,⟨hi,hi'⟩,by simp [hL],fun y hy=>?_,rfl⟩
  rcases List.mem_append.1 hy with hy | hy
  ·exact hA y hy
  ·rw [List.mem_singleton] at hy;subst hy;exact hx
 ·simp (disch:=omega) only [↓pq,↓pj,ps,pz,↓reduceIte,reduceLE,reduceLT,reduceEq,reduceGT,reduceGE,reduceAdd,reduceSub,reduceMul,reduceNeg,G_s_DrawPlaces_l0,G_s_DrawPlaces_l1,G_s_DrawPlaces_l2,G_s_DrawPlaces_l0,hc]
  exact ⟨L,rfl,by omega,hA⟩
theorem e_s_DrawPlaces {B:List Int} (hB:∀ x∈B,OkByte x) (hl:B.length≤1048576):PlacesP (F_s_DrawPlaces [.l (B.map eByte)]):=by
 rw [g_s_DrawPlaces]
 have hn:Prim.ev .len [.l (B.map eByte)]=some (ii B.length):=ev_lenM
 simp (disch:=omega) only [↓pq,↓pj,ps,pz,↓reduceIte,reduceLE,reduceLT,reduceEq,reduceGT,reduceGE,reduceAdd,reduceSub,reduceMul,reduceNeg,G_s_DrawPlaces_l0,G_s_DrawPlaces_l1,G_s_DrawPlaces_l2,G_s_DrawPlaces,hn]
 refine new_post hB hl (Post:=PlacesP) ?_ ?_ _
 ·intro q h k c1 c2
  obtain ⟨m,a,c,d,e1,e2,e3,e4,e5,e6,e7⟩:=step131 hB hl h c1
  exact ⟨d,by simp (disch:=omega) only [↓pq,↓pj,ps,pz,↓reduceIte,reduceLE,reduceLT,reduceEq,reduceGT,reduceGE,reduceAdd,reduceSub,reduceMul,reduceNeg,G_s_DrawPlaces_l0,G_s_DrawPlaces_l1,G_s_DrawPlaces_l2,hn,c1,c2,e1,e2,e3,e4,e5,e6,e7]⟩
 ·intro q h k hk
  obtain ⟨x,i,h',e,hx,hi,hi'⟩:=e_s_l01Byte hB hl h (i:=0) (by omega) (by omega)
  by_cases c1:(k:Int) < B.length
  ·have c2:¬ (k:Int) < 4000:=by omega
   simp (disch:=omega) only [↓pq,↓pj,ps,pz,↓reduceIte,reduceLE,reduceLT,reduceEq,reduceGT,reduceGE,reduceAdd,reduceSub,reduceMul,reduceNeg,G_s_DrawPlaces_l0,G_s_DrawPlaces_l1,G_s_DrawPlaces_l2,hn,c1,c2,e]
   exact places_tail hB hl hi hi'
  ·simp (disch:=omega) only [↓pq,↓pj,ps,pz,↓reduceIte,reduceLE,reduceLT,reduceEq,reduceGT,reduceGE,reduceAdd,reduceSub,reduceMul,reduceNeg,G_s_DrawPlaces_l0,G_s_DrawPlaces_l1,G_s_DrawPlaces_l2,hn,c1,e]
   exact places_tail hB hl hi hi'
theorem dec_code (ts:List T) (h:WTs [.sl yByte] ts):∃ B:List Int,ts=[.l (B.map eByte)]∧∀ x∈B,OkByte x:=by
 obtain ⟨t1,_,rfl,q1,rfl⟩:=WTsU_of h
 unfold WT at q1
 obtain ⟨z1,rfl,m1,g1⟩:=q1
 obtain ⟨B,rfl,hB⟩:=dec_list dByte g1
 exact ⟨B,rfl,hB⟩
theorem e_big (B:List Int):F_big [.l (B.map eByte)]=some [bb (decide ((B.length:Int) > 1048576))]:=by
 have hn:Prim.ev .len [.l (B.map eByte)]=some (ii B.length):=ev_lenM
 rw [g_big]
 simp (disch:=omega) only [↓pq,↓pj,ps,pz,↓reduceIte,reduceLE,reduceLT,reduceEq,reduceGT,reduceGE,reduceAdd,reduceSub,reduceMul,reduceNeg,G_big,hn]
 try rfl
end Go.Proofs.YtlofiplkmgmnfaaC

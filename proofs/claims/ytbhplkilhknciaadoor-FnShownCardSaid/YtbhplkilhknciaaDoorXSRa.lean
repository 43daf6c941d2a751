/- Drawn routes. Conditions: none. -/
import Derived.Test.YtbhplkilhknciaaDoorXSU
import Derived.Test.YtbhplkilhknciaaDoorXSDc
namespace Go.Proofs.YtbhplkilhknciaaDoorC
open Int (reduceLE reduceLT reduceEq reduceGT reduceGE reduceAdd reduceSub reduceMul reduceNeg)
set_option linter.unusedVariables false
set_option linter.unusedSimpArgs false
theorem trueRoutes_fit (x:Net) (L U:List Bool) (v:Int):(∀ r∈trueRoutes x L U v,OkRoute r∧r.hops.length≤6)∧(trueRoutes x L U v).length≤21:=by
 unfold trueRoutes
 split
 ·rename_i h
  have hs:=(ideal_sto (L:=L) (U:=U) (idealB_iff h.1).1).ok (by omega)
  exact ⟨routesOf_ok hs (A:=areasOf x.links v) (z:=border x.links v) (fr:=v),routesOf_len (ideal x L U) (areasOf x.links v) (border x.links v) v⟩
 ·exact ⟨by simp,by simp⟩
def RtsOk (rs:List Route):Prop:=(∀ r∈rs,OkRoute r∧r.hops.length≤6)∧rs.length≤22
def RtsP (B:List Int) (o:Option (List T)):Prop :=
 ∃ (rs:List Route) (i' h':Int),o=some [.l (rs.map eRoute),.l (B.map eByte),ii i',ii h']∧RtsOk rs∧0≤i'∧i'≤B.length
theorem l11_up {B:List Int} (hB:∀ x∈B,OkByte x) (hl:B.length≤1048576) {x:Net} (hx:netOk x=true∧2≤x.n∧x.things.length≤2) {L:List Bool} {i:Int} (h:Int) (hi:0≤i) (hi':i≤B.length) :
  RtsP B (iter (G_s_l11Routes_l0 F_s_TrueRoutes F_s_l01Below F_s_l01Once (ii x.n) (.l (x.links.map eLink)) (.l (x.things.map eThing)) (.l (B.map eByte)) (ii i) (ii h) (.l (L.map eBool))) rounds [ii 0,.l ((List.replicate x.n.toNat false).map eBool)]):=by
 have hn:=netOk_n hx.1
 have hlk:=(netOk_links hx.1).2
 refine iter_post (RtsP B) (fun m st=>∃ (k:Nat) (U:List Bool),st=[ii k,.l (U.map eBool)]∧(k:Int)≤x.n∧(U.length:Int)=x.n∧m=x.n.toNat - k) ?_ x.n.toNat _ rounds ⟨0,_,rfl,by omega,by simp;omega,rfl⟩ (by unfold rounds;omega)
 rintro m st q ⟨k,U,rfl,hk,hU,rfl⟩ hq
 by_cases c1:(k:Int) < U.length
 ·have e2:=put_Bool (l:=U) (n:=(k:Int)) (x:=true) (by omega) c1
  simp (disch:=omega) only [↓pq,↓pj,ps,pz,↓reduceIte,reduceLE,reduceLT,reduceEq,reduceGT,reduceGE,reduceAdd,reduceSub,reduceMul,reduceNeg,G_s_l11Routes_l0,G_s_l11Routes_l1,G_s_l11Routes_l0,c1,e2]
  exact hq (x.n.toNat - (k+1)) _ (by omega) ⟨k+1,_,by rw [cast_S],by omega,by simpa using hU,rfl⟩
 ·obtain ⟨d,i,h,e1,hd,hi,hi'⟩:=e_s_l01Below hB hl h hi hi' x.n (by omega) (by omega)
  have e2:=e_s_TrueRoutes x.n x.links x.things L U (1+d) (by omega) (by have:=hx.2.2;omega)
  obtain ⟨g1,g2⟩:=trueRoutes_fit x L U (1+d)
  rw [show (⟨x.n,x.links,x.things⟩:Net)=x from rfl] at e2
  generalize trueRoutes x L U (1+d)=rs at e2 g1 g2
  by_cases c2:(0:Int) < rs.length
  ·obtain ⟨f,i,h,e3,hi,hi'⟩:=e_s_l01Once hB hl h hi hi' 6 (by omega) (by omega)
   cases f with
   | false =>
    simp (disch:=omega) only [↓pq,↓pj,ps,pz,↓reduceIte,reduceLE,reduceLT,reduceEq,reduceGT,reduceGE,reduceAdd,reduceSub,reduceMul,reduceNeg,G_s_l11Routes_l0,G_s_l11Routes_l1,G_s_l11Routes_l0,c1,e1,e2,c2,e3,Bool.false_eq_true]
    exact ⟨rs,i,h,rfl,⟨g1,by omega⟩,hi,hi'⟩
   | true =>
    simp (disch:=omega) only [↓pq,↓pj,ps,pz,↓reduceIte,reduceLE,reduceLT,reduceEq,reduceGT,reduceGE,reduceAdd,reduceSub,reduceMul,reduceNeg,G_s_l11Routes_l0,G_s_l11Routes_l1,G_s_l11Routes_l0,c1,e1,e2,c2,e3]
    have hm:=gt_mem (l:=rs) (n:=0) (by omega) c2
    exact ⟨rs++[gt rs 0],i,h,by simp [eRoute],⟨fun r hr=>by
     rcases List.mem_append.1 hr with hr | hr
     ·exact g1 r hr
     ·rw [List.mem_singleton.1 hr];exact g1 _ hm,by simp;omega⟩,hi,hi'⟩
  ·simp (disch:=omega) only [↓pq,↓pj,ps,pz,↓reduceIte,reduceLE,reduceLT,reduceEq,reduceGT,reduceGE,reduceAdd,reduceSub,reduceMul,reduceNeg,G_s_l11Routes_l0,G_s_l11Routes_l1,G_s_l11Routes_l0,c1,e1,e2,c2]
   exact ⟨rs,i,h,rfl,⟨g1,by omega⟩,hi,hi'⟩
theorem e_s_l11Routes {B:List Int} (hB:∀ x∈B,OkByte x) (hl:B.length≤1048576) {i:Int} (h:Int) (hi:0≤i) (hi':i≤B.length):RtsP B (F_s_l11Routes [.l (B.map eByte),ii i,ii h]):=by
 rw [g_s_l11Routes]
 obtain ⟨x,i,h,e1,hx,hi,hi'⟩:=e_s_l03Net hB hl h hi hi'
 have hn:=netOk_n hx.1
 have hlk:=(netOk_links hx.1).2
 have m1:=mk_run (enc:=eBool) (n:=x.links.length) (x:=false) (vs:=[bb false]) (by omega) rfl
 have m2:=mk_run (enc:=eBool) (n:=x.n.toNat) (x:=false) (vs:=[bb false]) (by omega) rfl
 rw [show ((x.n.toNat:Nat):Int)=x.n by omega] at m2
 simp (disch:=omega) only [↓pq,↓pj,ps,pz,↓reduceIte,reduceLE,reduceLT,reduceEq,reduceGT,reduceGE,reduceAdd,reduceSub,reduceMul,reduceNeg,G_s_l11Routes_l0,G_s_l11Routes_l1,G_s_l11Routes,e1,m1,m2]
 refine iter_post (RtsP B) (fun m st=>∃ (k:Nat) (i h:Int) (L:List Bool),st=[ii k,.l (B.map eByte),ii i,ii h,.l (L.map eBool)]∧k≤x.links.length∧(0≤i∧i≤B.length)∧L.length=x.links.length∧m=x.links.length - k) ?_ x.links.length _ rounds ⟨0,i,h,_,rfl,by omega,⟨hi,hi'⟩,by simp,rfl⟩ (by unfold rounds;omega)
 rintro m st q ⟨k,i,h,L,rfl,hk,⟨hi,hi'⟩,hL,rfl⟩ hq
 by_cases c1:(k:Int) < L.length
 ·obtain ⟨f,i,h,e1,hi,hi'⟩:=e_s_l01Once hB hl h hi hi' 8 (by omega) (by omega)
  have e2:=put_Bool (l:=L) (n:=(k:Int)) (x:=!f) (by omega) c1
  simp (disch:=omega) only [↓pq,↓pj,ps,pz,↓reduceIte,reduceLE,reduceLT,reduceEq,reduceGT,reduceGE,reduceAdd,reduceSub,reduceMul,reduceNeg,G_s_l11Routes_l0,G_s_l11Routes_l1,G_s_l11Routes_l1,c1,e1,e2]
  exact hq (x.links.length - (k+1)) _ (by omega) ⟨k+1,i,h,_,by rw [cast_S],by omega,⟨hi,hi'⟩,by simpa using hL,rfl⟩
 ·simp (disch:=omega) only [↓pq,↓pj,ps,pz,↓reduceIte,reduceLE,reduceLT,reduceEq,reduceGT,reduceGE,reduceAdd,reduceSub,reduceMul,reduceNeg,G_s_l11Routes_l0,G_s_l11Routes_l1,G_s_l11Routes_l1,c1]
  exact l11_up hB hl hx h hi hi'
end Go.Proofs.YtbhplkilhknciaaDoorC

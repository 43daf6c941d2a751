/- A drawn node's own is right. Conditions: none. -/
import Derived.Test.YtjimmglpkndemaaGreatXSDi
namespace Go.Proofs.YtjimmglpkndemaaGreatC
open Int renaming reduceLE → Q0_, reduceLT → Q1_, reduceEq → Q2_, reduceGT → Q3_, reduceGE → Q4_, reduceAdd → Q5_, reduceSub → Q6_, reduceMul → Q7_, reduceNeg → Q8_
set_option linter.unusedVariables false
set_option linter.unusedSimpArgs false
def wU_ (P:List (Int × Int)):List Int:=P.flatMap fun p=>[p.1,p.2]
theorem ajd_ (P:List (Int × Int)):(wU_ P).length=2 * P.length:=by
 induction P with
 | nil=>rfl
 | cons p P ih=>show (p.1 :: p.2 :: wU_ P).length=_;simp [ih];omega
theorem aq9_:∀ (P:List (Int × Int)) (k:Nat) (h:k < P.length),(wU_ P)[2 * k]?=some P[k].1∧(wU_ P)[2 * k+1]?=some P[k].2
 | p :: P,0,_=>⟨rfl,rfl⟩
 | p :: P,k+1,h=>by
  have ih:=aq9_ P k (by simpa using h)
  show (p.1 :: p.2 :: wU_ P)[2 * (k+1)]?=_∧(p.1 :: p.2 :: wU_ P)[2 * (k+1)+1]?=_
  rw [show 2 * (k+1)=2 * k+1+1 by omega]
  simpa using ih
def ao1_ (p q:Int × Int):Prop:=p.1 < q.1∨p.1=q.1∧p.2 < q.2
theorem axs_ {ok:Int→Int→Bool} {P:List (Int × Int)} (h1:P.Pairwise ao1_) (h2:∀ p∈P,ok p.1 p.2=true):uT_ ok (wU_ P)=true:=by
 unfold uT_
 rw [allB_iff,ajd_]
 intro k hk
 have hk':k < P.length:=by omega
 have g:∀ k:Nat,(h:k < P.length)→gt (wU_ P) (2 * (k:Int))=P[k].1∧gt (wU_ P) (2 * (k:Int)+1)=P[k].2:=by
  intro k h
  have:=aq9_ P k h
  rw [show (2 * (k:Int))=((2 * k:Nat):Int) by omega,show (((2 * k:Nat):Int)+1)=((2 * k+1:Nat):Int) by omega]
  exact ⟨auk_ this.1,auk_ this.2⟩
 obtain ⟨g1,g2⟩:=g k hk'
 rw [g1,g2]
 simp only [bA_,Bool.or_eq_true,Bool.not_eq_true',decide_eq_false_iff_not,decide_eq_true_eq]
 refine ⟨h2 _ (List.getElem_mem hk'),?_⟩
 rcases Nat.eq_zero_or_pos k with h0 | h0
 ·exact .inl (by omega)
 ·right
  obtain ⟨g3,g4⟩:=g (k - 1) (by omega)
  have e:2 * ((k - 1:Nat):Int)=2 * (k:Int) - 2:=by omega
  rw [e] at g3
  rw [show 2 * ((k - 1:Nat):Int)+1=2 * (k:Int) - 1 by omega] at g4
  rw [g3,g4]
  exact List.pairwise_iff_getElem.1 h1 (k - 1) k (by omega) hk' (by omega)
def kT_ (B:List Int) (o:Option (List T)):Prop :=
 ∃ (x:Self) (i' h':Int),o=some [ii x.id,ii x.boot,ii x.net.n,.l (x.net.links.map zr_),.l (x.net.things.map zo_),.l (x.heard.map eInt),.l (x.store.map eRcd),.l (B.map yl_),ii i',ii h']∧(xu_ x=true∧x.boot≤1∧StoP 132 x.store∧x.net.things.length≤2∧2≤x.net.n)∧0≤i'∧i'≤B.length
section
variable {B:List Int} (hB:∀ x∈B,vA_ x) (hl:B.length≤1048576) {x:Net} (hx:wn_ x=true∧2≤x.n∧x.things.length≤2) {id boot:Int} (hid:1≤id∧id≤x.n) (hbt:0≤boot∧boot≤1)
 {P:List (Int × Int)} (hP1:P.Pairwise ao1_) (hP2:∀ p∈P,decide (0≤zn_ (zt_ id p.1 p.2) x.links)=true)
include hB hl hx hid hbt hP1 hP2
theorem apg_ {s:List Rcd} (hs:StoP 130 s) {i:Int} (h:Int) (hi:0≤i) (hi':i≤B.length) :
  kT_ B (iter (z4_ zR_ xn_ xa_ (ii x.n) (.l (x.links.map zr_)) (.l (x.things.map zo_)) (ii boot) (ii id) (.l ((wU_ P).map eInt))) rounds [ii 0,.l (s.map eRcd),.l (B.map yl_),ii i,ii h]):=by
 refine w4_ (kT_ B) (fun m st=>∃ (k:Nat) (i h:Int) (s:List Rcd),st=[ii k,.l (s.map eRcd),.l (B.map yl_),ii i,ii h]∧k≤2∧(0≤i∧i≤B.length)∧StoP (130+k) s∧m=2 - k) ?_ 2 _ rounds ⟨0,i,h,s,rfl,by omega,⟨hi,hi'⟩,hs,rfl⟩ (by unfold rounds;omega)
 rintro m st q ⟨k,i,h,s,rfl,hk,⟨hi,hi'⟩,hs,rfl⟩ hq
 obtain ⟨d,i,h,e1,r1,hi,hi'⟩:=z2_ hB hl h hi hi' 3 (by omega) (by omega)
 by_cases c1:(k:Int) < d
 ·obtain ⟨r,i,h,e2,⟨r2,r3,_⟩,hi,hi'⟩:=ah6_ hB hl h hi hi'
  have hsl:=hs.2.1
  have e3:=jc_ s r (by omega) (j4_ hs.1) (yD_ hs.1) (by have:=ahk_ r2;omega)
  simp (disch:=omega) only [↓pq,↓pj,ps,pz,↓reduceIte,Q0_,Q1_,Q2_,Q3_,Q4_,Q5_,Q6_,Q7_,Q8_,z4_,z1_,z5_,z0_,yc_,z4_,e1,c1,e2,e3]
  exact hq (2 - (k+1)) _ (by omega) ⟨k+1,i,h,insR s r,by rw [uv_],by omega,⟨hi,hi'⟩,hs.ins r3 (by omega),rfl⟩
 ·simp (disch:=omega) only [↓pq,↓pj,ps,pz,↓reduceIte,Q0_,Q1_,Q2_,Q3_,Q4_,Q5_,Q6_,Q7_,Q8_,z4_,z1_,z5_,z0_,yc_,z4_,e1,c1]
  refine ⟨⟨id,boot,x,wU_ P,s⟩,i,h,rfl,⟨?_,hbt.2,hs.mono (by omega) (by omega),hx.2.2,hx.2.1⟩,hi,hi'⟩
  have hp:=axs_ (ok:=fun v a=>decide (0≤zn_ (zt_ id v a) x.links)) hP1 hP2
  unfold xu_
  simp only [bA_,inB_iff,decide_eq_true_eq]
  exact ⟨hx.1,hid,by omega,⟨by rw [ajd_];omega,hp⟩,hs.1⟩
theorem aNj_ {L:List Bool} (hL:L.length=x.links.length) {i:Int} (h:Int) (hi:0≤i) (hi':i≤B.length) :
  kT_ B (iter (z1_ rounds uz_ zR_ xw_ xn_ xa_ w2_ (ii x.n) (.l (x.links.map zr_)) (.l (x.things.map zo_)) (ii boot) (ii id) (.l ((wU_ P).map eInt)) (.l (L.map z3_))) rounds [ii 0,.l (B.map yl_),ii i,ii h,.l ((List.replicate x.n.toNat false).map z3_)]):=by
 have hn:=ap7_ hx.1
 have hlk:=(kO_ hx.1).2
 refine w4_ (kT_ B) (fun m st=>∃ (k:Nat) (i h:Int) (U:List Bool),st=[ii k,.l (B.map yl_),ii i,ii h,.l (U.map z3_)]∧(k:Int)≤x.n∧(0≤i∧i≤B.length)∧(U.length:Int)=x.n∧m=x.n.toNat - k) ?_ x.n.toNat _ rounds ⟨0,i,h,_,rfl,by omega,⟨hi,hi'⟩,by simp;omega,rfl⟩ (by unfold rounds;omega)
 rintro m st q ⟨k,i,h,U,rfl,hk,⟨hi,hi'⟩,hU,rfl⟩ hq
 by_cases c1:(k:Int) < U.length
 ·obtain ⟨f,i,h,e1,hi,hi'⟩:=v5_ hB hl h hi hi' 8 (by omega) (by omega)
  have e2:=al6_ (l:=U) (n:=(k:Int)) (x:=!f) (by omega) c1
  simp (disch:=omega) only [↓pq,↓pj,ps,pz,↓reduceIte,Q0_,Q1_,Q2_,Q3_,Q4_,Q5_,Q6_,Q7_,Q8_,z4_,z1_,z5_,z0_,yc_,z1_,c1,e1,e2]
  exact hq (x.n.toNat - (k+1)) _ (by omega) ⟨k+1,i,h,_,by rw [uv_],by omega,⟨hi,hi'⟩,by simpa using hU,rfl⟩
 ·have hii:acs_ x L U=true:=by unfold acs_;simp [hx.1,hL,hU]
  have eI:=aIn_ x.n x.links x.things L U (by omega) (by have:=hx.2.2;omega)
  rw [show (⟨x.n,x.links,x.things⟩:Net)=x from rfl,if_pos hii] at eI
  have hS:=aF3_ (L:=L) (U:=U) hx.1
  have hR:=aG1_ (L:=L) (U:=U) hx.1
  have hI:StoP 130 (ah0_ x L U):=⟨hS.ok (by decide),hS.len,fun r hr=>by have:=(hR r hr).2.1;omega,by have:=hS.2.2;rw [if_neg (by decide)];omega⟩
  obtain ⟨f,i,h,e1,hi,hi'⟩:=v5_ hB hl h hi hi' 3 (by omega) (by omega)
  cases f with
  | false =>
   simp (disch:=omega) only [↓pq,↓pj,ps,pz,↓reduceIte,Q0_,Q1_,Q2_,Q3_,Q4_,Q5_,Q6_,Q7_,Q8_,z4_,z1_,z5_,z0_,yc_,z1_,c1,eI,e1,bF_]
   exact apg_ hB hl hx hid hbt hP1 hP2 hI h hi hi'
  | true =>
   obtain ⟨s,i,h,e2,hs,hi,hi'⟩:=atn_ hB hl h hi hi'
   simp (disch:=omega) only [↓pq,↓pj,ps,pz,↓reduceIte,Q0_,Q1_,Q2_,Q3_,Q4_,Q5_,Q6_,Q7_,Q8_,z4_,z1_,z5_,z0_,yc_,z1_,c1,eI,e1,e2]
   exact apg_ hB hl hx hid hbt hP1 hP2 (hs.mono (by omega) (by omega)) h hi hi'
theorem aE6_ {i:Int} (h:Int) (hi:0≤i) (hi':i≤B.length) :
  kT_ B (iter (z5_ rounds uz_ zR_ xw_ xn_ xa_ w2_ (ii x.n) (.l (x.links.map zr_)) (.l (x.things.map zo_)) (ii boot) (ii id) (.l ((wU_ P).map eInt)) (.l ((List.replicate x.n.toNat false).map z3_))) rounds [ii 0,.l (B.map yl_),ii i,ii h,.l ((List.replicate x.links.length false).map z3_)]):=by
 have hn:=ap7_ hx.1
 have hlk:=(kO_ hx.1).2
 refine w4_ (kT_ B) (fun m st=>∃ (k:Nat) (i h:Int) (L:List Bool),st=[ii k,.l (B.map yl_),ii i,ii h,.l (L.map z3_)]∧k≤x.links.length∧(0≤i∧i≤B.length)∧L.length=x.links.length∧m=x.links.length - k) ?_ x.links.length _ rounds ⟨0,i,h,_,rfl,by omega,⟨hi,hi'⟩,by simp,rfl⟩ (by unfold rounds;omega)
 rintro m st q ⟨k,i,h,L,rfl,hk,⟨hi,hi'⟩,hL,rfl⟩ hq
 by_cases c1:(k:Int) < L.length
 ·obtain ⟨f,i,h,e1,hi,hi'⟩:=v5_ hB hl h hi hi' 6 (by omega) (by omega)
  have e2:=al6_ (l:=L) (n:=(k:Int)) (x:=!f) (by omega) c1
  simp (disch:=omega) only [↓pq,↓pj,ps,pz,↓reduceIte,Q0_,Q1_,Q2_,Q3_,Q4_,Q5_,Q6_,Q7_,Q8_,z4_,z1_,z5_,z0_,yc_,z5_,c1,e1,e2]
  exact hq (x.links.length - (k+1)) _ (by omega) ⟨k+1,i,h,_,by rw [uv_],by omega,⟨hi,hi'⟩,by simpa using hL,rfl⟩
 ·simp (disch:=omega) only [↓pq,↓pj,ps,pz,↓reduceIte,Q0_,Q1_,Q2_,Q3_,Q4_,Q5_,Q6_,Q7_,Q8_,z4_,z1_,z5_,z0_,yc_,z5_,c1]
  exact aNj_ hB hl hx hid hbt hP1 hP2 hL h hi hi'
end
theorem aze_ {B:List Int} (hB:∀ x∈B,vA_ x) (hl:B.length≤1048576) {i:Int} (h:Int) (hi:0≤i) (hi':i≤B.length):kT_ B (uZ_ [.l (B.map yl_),ii i,ii h]):=by
 rw [azp_]
 obtain ⟨x,i,h,e1,hx,hi,hi'⟩:=aE4_ hB hl h hi hi'
 have hn:=ap7_ hx.1
 have hlk:=kO_ hx.1
 obtain ⟨boot,i,h,e2,hbt,hi,hi'⟩:=z2_ hB hl h hi hi' 2 (by omega) (by omega)
 obtain ⟨d,i,h,e3,hd,hi,hi'⟩:=z2_ hB hl h hi hi' x.n (by omega) (by omega)
 obtain ⟨id,hid0⟩:∃ id,id=1+d:=⟨_,rfl⟩
 have hid:1≤id∧id≤x.n:=by omega
 simp (disch:=omega) only [↓pq,↓pj,ps,pz,↓reduceIte,Q0_,Q1_,Q2_,Q3_,Q4_,Q5_,Q6_,Q7_,Q8_,z4_,z1_,z5_,z0_,yc_,ad1_,e1,e2,e3,← hid0]
 refine w4_ (kT_ B) (fun m st=>∃ (v:Nat) (i h:Int) (P:List (Int × Int)),st=[ii ((v:Int)+1),.l (B.map yl_),ii i,ii h,.l ((wU_ P).map eInt)]∧(v:Int)≤x.n∧(0≤i∧i≤B.length)∧(P.length≤3 * v∧P.Pairwise ao1_∧(∀ p∈P,decide (0≤zn_ (zt_ id p.1 p.2) x.links)=true)∧∀ p∈P,p.1≤v)∧m=x.n.toNat - v)
  ?_ x.n.toNat [ii 1,.l (B.map yl_),ii i,ii h,.l []] rounds ⟨0,i,h,[],rfl,by omega,⟨hi,hi'⟩,⟨by simp,.nil,by simp,by simp⟩,rfl⟩ (by unfold rounds;omega)
 rintro m st q ⟨v,i,h,P,rfl,hv,⟨hi,hi'⟩,⟨hP0,hP1,hP2,hP3⟩,rfl⟩ hq
 by_cases c1:(v:Int)+1≤x.n
 ·simp (disch:=omega) only [↓pq,↓pj,ps,pz,↓reduceIte,Q0_,Q1_,Q2_,Q3_,Q4_,Q5_,Q6_,Q7_,Q8_,z4_,z1_,z5_,z0_,yc_,yc_,c1]
  refine w4_ (kT_ B) (fun m st=>∃ (a:Nat) (i h:Int) (P:List (Int × Int)),st=[ii a,.l (B.map yl_),ii i,ii h,.l ((wU_ P).map eInt)]∧a≤3∧(0≤i∧i≤B.length)∧(P.length≤3 * v+a∧P.Pairwise ao1_∧(∀ p∈P,decide (0≤zn_ (zt_ id p.1 p.2) x.links)=true)∧∀ p∈P,p.1≤v∨p.1=(v:Int)+1∧p.2 < a)∧m=3 - a)
   ?_ 3 [ii 0,.l (B.map yl_),ii i,ii h,.l ((wU_ P).map eInt)] rounds ⟨0,i,h,P,rfl,by omega,⟨hi,hi'⟩,⟨by omega,hP1,hP2,fun p hp=>.inl (hP3 p hp)⟩,rfl⟩ (by unfold rounds;omega)
  clear hP0 hP1 hP2 hP3
  rintro m st q' ⟨a,i,h,P,rfl,ha,⟨hi,hi'⟩,⟨hP0,hP1,hP2,hP3⟩,rfl⟩ hq'
  have e4:=j2_ (ii x.n) (.l (x.things.map zo_)) x.links id ((v:Int)+1) a (by omega)
  by_cases c2:(a:Int)≤2
  ·have keep:∀ i h:Int,(0≤i∧i≤B.length)→kT_ B (q' [ii (a+1),.l (B.map yl_),ii i,ii h,.l ((wU_ P).map eInt)]):=fun i h hi=>hq' (3 - (a+1)) _ (by omega) ⟨a+1,i,h,P,by rw [uv_],by omega,hi,⟨by omega,hP1,hP2,fun p hp=>by have:=hP3 p hp;omega⟩,rfl⟩
   by_cases c3:yM_ x.links id ((v:Int)+1) a > 0
   ·obtain ⟨f,i,h,e5,hi,hi'⟩:=v5_ hB hl h hi hi' 4 (by omega) (by omega)
    cases f with
    | true =>
     simp (disch:=omega) only [↓pq,↓pj,ps,pz,↓reduceIte,Q0_,Q1_,Q2_,Q3_,Q4_,Q5_,Q6_,Q7_,Q8_,z4_,z1_,z5_,z0_,yc_,z0_,c2,e4,c3,e5,Bool.not_true,bF_]
     exact keep i h ⟨hi,hi'⟩
    | false =>
     have hfl:=ajd_ P
     have e6:=avv_ (l:=wU_ P) (x:=(v:Int)+1) (y:=(a:Int)) (by omega)
     have hok:0≤zn_ (zt_ id ((v:Int)+1) a) x.links:=by
      have:=kM_ hlk.1 id ((v:Int)+1) a
      rcases Int.lt_or_le (zn_ (zt_ id ((v:Int)+1) a) x.links) 0 with h0 | h0
      ·have:=this.2 h0;omega
      ·exact h0
     simp (disch:=omega) only [↓pq,↓pj,ps,pz,↓reduceIte,Q0_,Q1_,Q2_,Q3_,Q4_,Q5_,Q6_,Q7_,Q8_,z4_,z1_,z5_,z0_,yc_,z0_,c2,e4,c3,e5,Bool.not_false,e6]
     refine hq' (3 - (a+1)) _ (by omega) ⟨a+1,i,h,P++[((v:Int)+1,(a:Int))],?_,by omega,⟨hi,hi'⟩,⟨by simp;omega,?_,?_,?_⟩,rfl⟩
     ·rw [uv_,show wU_ (P++[((v:Int)+1,(a:Int))])=wU_ P++[(v:Int)+1,(a:Int)] by simp [wU_]]
     ·rw [List.pairwise_append]
      refine ⟨hP1,List.pairwise_singleton _ _,fun p hp p' hp'=>?_⟩
      rw [List.mem_singleton] at hp'
      rw [hp']
      have:=hP3 p hp
      show p.1 < (v:Int)+1∨p.1=(v:Int)+1∧p.2 < (a:Int)
      omega
     ·intro p hp
      rcases List.mem_append.1 hp with hp | hp
      ·exact hP2 p hp
      ·rw [List.mem_singleton.1 hp];simpa using hok
     ·intro p hp
      rcases List.mem_append.1 hp with hp | hp
      ·have:=hP3 p hp;omega
      ·rw [List.mem_singleton.1 hp];exact .inr ⟨rfl,by show (a:Int) < ((a+1:Nat):Int);omega⟩
   ·simp (disch:=omega) only [↓pq,↓pj,ps,pz,↓reduceIte,Q0_,Q1_,Q2_,Q3_,Q4_,Q5_,Q6_,Q7_,Q8_,z4_,z1_,z5_,z0_,yc_,z0_,c2,e4,c3]
    exact keep i h ⟨hi,hi'⟩
  ·simp (disch:=omega) only [↓pq,↓pj,ps,pz,↓reduceIte,Q0_,Q1_,Q2_,Q3_,Q4_,Q5_,Q6_,Q7_,Q8_,z4_,z1_,z5_,z0_,yc_,z0_,c2]
   exact hq (x.n.toNat - (v+1)) _ (by omega) ⟨v+1,i,h,P,by rw [uv_],by omega,⟨hi,hi'⟩,⟨by omega,hP1,hP2,fun p hp=>by have:=hP3 p hp;omega⟩,rfl⟩
 ·have m1:=acx_ (enc:=z3_) (n:=x.links.length) (x:=false) (vs:=[bb false]) (by omega) rfl
  have m2:=acx_ (enc:=z3_) (n:=x.n.toNat) (x:=false) (vs:=[bb false]) (by omega) rfl
  rw [show ((x.n.toNat:Nat):Int)=x.n by omega] at m2
  simp (disch:=omega) only [↓pq,↓pj,ps,pz,↓reduceIte,Q0_,Q1_,Q2_,Q3_,Q4_,Q5_,Q6_,Q7_,Q8_,z4_,z1_,z5_,z0_,yc_,yc_,c1,m1,m2]
  exact aE6_ hB hl hx hid (by omega) hP1 hP2 h hi hi'
def aF6_ (o:Option (List T)):Prop :=
 ∃ x:Self,o=some [ii x.id,ii x.boot,ii x.net.n,.l (x.net.links.map zr_),.l (x.net.things.map zo_),.l (x.heard.map eInt),.l (x.store.map eRcd)]∧xu_ x=true∧x.boot≤1∧StoP 132 x.store∧x.net.things.length≤2∧2≤x.net.n
theorem ak0_ {B:List Int} (hB:∀ x∈B,vA_ x) (hl:B.length≤1048576):aF6_ (wE_ [.l (B.map yl_)]):=by
 rw [ak7_]
 have hn:Prim.ev .len [.l (B.map yl_)]=some (ii B.length):=ky_
 simp (disch:=omega) only [↓pq,↓pj,ps,pz,↓reduceIte,Q0_,Q1_,Q2_,Q3_,Q4_,Q5_,Q6_,Q7_,Q8_,wt_,q4_,hn]
 refine aJ3_ hB hl (Post:=aF6_) ?_ ?_ _
 ·intro q h k c1 c2
  obtain ⟨m,a,c,d,e1,e2,e3,e4,e5,e6,e7⟩:=aMl_ hB hl h c1
  exact ⟨d,by simp (disch:=omega) only [↓pq,↓pj,ps,pz,↓reduceIte,Q0_,Q1_,Q2_,Q3_,Q4_,Q5_,Q6_,Q7_,Q8_,wt_,hn,c1,c2,e1,e2,e3,e4,e5,e6,e7]⟩
 ·intro q h k hk
  obtain ⟨x,i,h',e,hx,hi,hi'⟩:=aze_ hB hl h (i:=0) (by omega) (by omega)
  by_cases c1:(k:Int) < B.length
  ·have c2:¬ (k:Int) < 4000:=by omega
   simp (disch:=omega) only [↓pq,↓pj,ps,pz,↓reduceIte,Q0_,Q1_,Q2_,Q3_,Q4_,Q5_,Q6_,Q7_,Q8_,wt_,hn,c1,c2,e]
   exact ⟨x,rfl,hx⟩
  ·simp (disch:=omega) only [↓pq,↓pj,ps,pz,↓reduceIte,Q0_,Q1_,Q2_,Q3_,Q4_,Q5_,Q6_,Q7_,Q8_,wt_,hn,c1,e]
   exact ⟨x,rfl,hx⟩
end Go.Proofs.YtjimmglpkndemaaGreatC

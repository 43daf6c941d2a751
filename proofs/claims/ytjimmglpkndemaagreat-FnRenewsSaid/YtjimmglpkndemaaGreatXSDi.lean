/- Drawn records, stores and nodes' own are right. Conditions: none. -/
import Derived.Test.YtjimmglpkndemaaGreatXSEa
namespace Go.Proofs.YtjimmglpkndemaaGreatC
open Int renaming reduceLE → Q0_, reduceLT → Q1_, reduceEq → Q2_, reduceGT → Q3_, reduceGE → Q4_, reduceAdd → Q5_, reduceSub → Q6_, reduceMul → Q7_, reduceNeg → Q8_
set_option linter.unusedVariables false
set_option linter.unusedSimpArgs false
theorem aKn_ (a b c d e:Int):Prim.ev (.lit 1 [true,true,true,true,true]) [ii a,ii b,ii c,ii d,ii e]=some (.l ([a,b,c,d,e].map eInt)):=by simp [Prim.ev,wL_,xK_,scal,eInt]
def RecP (B:List Int) (o:Option (List T)):Prop :=
 ∃ (r:Rcd) (i' h':Int),o=some [ii r.area,ii r.kind,ii r.owner,ii r.key,ii r.seq,.l (r.near.map zu_),ii r.cost,bb r.far,.l (B.map yl_),ii i',ii h']∧(zE_ r=true∧r.seq≤5∧r.owner≤4)∧0≤i'∧i'≤B.length
theorem aNd_ {a o s:Int} {l:List Near} (ha:0≤a∧a≤2) (ho:1≤o∧o≤6) (hs:1≤s∧s≤100000) (hl:w5_ o l=true):zE_ ⟨a,1,o,0,s,l,0,false⟩=true:=by
 unfold zE_
 simp only [bA_,inB_iff]
 refine ⟨⟨ho,hs⟩,?_⟩
 simp [inB_iff,ha,hl]
theorem aNs_ {a o k s c:Int} (ha:0≤a∧a≤2) (ho:1≤o∧o≤6) (hk:1≤k∧k≤6) (hs:1≤s∧s≤100000) (hc:0≤c∧c≤60000):zE_ ⟨a,2,o,k,s,[],c,false⟩=true:=by
 unfold zE_
 simp only [bA_,inB_iff]
 refine ⟨⟨ho,hs⟩,?_⟩
 simp [inB_iff,ha,hk,hc]
theorem aNk_ {o k s c:Int} {f:Bool} (ho:1≤o∧o≤6) (hk:1≤k∧k≤9) (hs:1≤s∧s≤100000) (hc:(1≤c∧c≤1000)∨c=60000):zE_ ⟨9,3,o,k,s,[],c,f⟩=true:=by
 unfold zE_
 simp only [bA_,inB_iff]
 refine ⟨⟨ho,hs⟩,?_⟩
 simp [inB_iff,hk,hc]
set_option maxHeartbeats 1000000 in
theorem ah6_ {B:List Int} (hB:∀ x∈B,vA_ x) (hl:B.length≤1048576) {i:Int} (h:Int) (hi:0≤i) (hi':i≤B.length):RecP B (xn_ [.l (B.map yl_),ii i,ii h]):=by
 rw [ar6_]
 obtain ⟨k,i,h,e1,r1,hi,hi'⟩:=z2_ hB hl h hi hi' 3 (by omega) (by omega)
 obtain ⟨o,i,h,e2,r2,hi,hi'⟩:=z2_ hB hl h hi hi' 4 (by omega) (by omega)
 obtain ⟨a,i,h,e3,r3,hi,hi'⟩:=z2_ hB hl h hi hi' 3 (by omega) (by omega)
 obtain ⟨s,i,h,e4,r4,hi,hi'⟩:=z2_ hB hl h hi hi' 5 (by omega) (by omega)
 by_cases c1:1+k=1
 ·simp (disch:=omega) only [↓pq,↓pj,ps,pz,↓reduceIte,Q0_,Q1_,Q2_,Q3_,Q4_,Q5_,Q6_,Q7_,Q8_,yJ_,uW_,e1,e2,e3,e4,c1]
  refine w4_ (RecP B) (fun m st=>∃ (v:Nat) (i h:Int) (l:List Near),st=[ii ((v:Int)+1),.l (B.map yl_),ii i,ii h,.l (l.map zu_)]∧v≤6∧(0≤i∧i≤B.length)∧(l.length≤v∧(l.Pairwise fun x y=>x.to < y.to)∧∀ x∈l,(1≤x.to∧x.to≤v)∧x.to≠1+o∧1≤x.cost∧x.cost≤1000)∧m=6 - v) ?_ 6
   [ii 1,.l (B.map yl_),ii i,ii h,.l []] rounds ⟨0,i,h,[],rfl,by omega,⟨hi,hi'⟩,⟨by simp,.nil,by simp⟩,rfl⟩ (by unfold rounds;omega)
  rintro m st q ⟨v,i,h,l,rfl,hv,⟨hi,hi'⟩,⟨hl1,hl2,hl3⟩,rfl⟩ hq
  by_cases c2:(v:Int)+1≤6
  ·have same:(l.Pairwise fun x y=>x.to < y.to)∧∀ x∈l,(1≤x.to∧x.to≤((v+1:Nat):Int))∧x.to≠1+o∧1≤x.cost∧x.cost≤1000:=⟨hl2,fun x hx=>by have:=hl3 x hx;omega⟩
   by_cases c3:(v:Int)+1=1+o
   ·simp (disch:=omega) only [↓pq,↓pj,ps,pz,↓reduceIte,Q0_,Q1_,Q2_,Q3_,Q4_,Q5_,Q6_,Q7_,Q8_,yJ_,yJ_,c2,eq_true c3]
    exact hq (6 - (v+1)) _ (by omega) ⟨v+1,i,h,l,by rw [uv_],by omega,⟨hi,hi'⟩,⟨by omega,same⟩,rfl⟩
   ·obtain ⟨f,i,h,e5,hi,hi'⟩:=v5_ hB hl h hi hi' 3 (by omega) (by omega)
    cases f with
    | false =>
     simp (disch:=omega) only [↓pq,↓pj,ps,pz,↓reduceIte,Q0_,Q1_,Q2_,Q3_,Q4_,Q5_,Q6_,Q7_,Q8_,yJ_,yJ_,c2,c3,e5,bF_]
     exact hq (6 - (v+1)) _ (by omega) ⟨v+1,i,h,l,by rw [uv_],by omega,⟨hi,hi'⟩,⟨by omega,same⟩,rfl⟩
    | true =>
     obtain ⟨c,i,h,e6,r6,hi,hi'⟩:=z2_ hB hl h hi hi' 4 (by omega) (by omega)
     have elit:Prim.ev (.lit 2 [true,true]) [ii ((v:Int)+1),ii (1+c)]=some (.l ([(⟨(v:Int)+1,1+c⟩:Near)].map zu_)):=by simp [Prim.ev,wL_,xK_,scal,zu_]
     have eapp:Prim.ev (.app true 2) [.l (l.map zu_),.l ([(⟨(v:Int)+1,1+c⟩:Near)].map zu_)]=some (.l ((l++[(⟨(v:Int)+1,1+c⟩:Near)]).map zu_)):=afs_ (l:=l) (by omega)
     simp (disch:=omega) only [↓pq,↓pj,ps,pz,↓reduceIte,Q0_,Q1_,Q2_,Q3_,Q4_,Q5_,Q6_,Q7_,Q8_,yJ_,yJ_,c2,c3,e5,e6,elit,eapp]
     refine hq (6 - (v+1)) _ (by omega) ⟨v+1,i,h,l++[⟨(v:Int)+1,1+c⟩],by rw [uv_],by omega,⟨hi,hi'⟩,⟨by simp;omega,?_,?_⟩,rfl⟩
     ·rw [List.pairwise_append]
      refine ⟨hl2,List.pairwise_singleton _ _,fun x hx y hy=>?_⟩
      rw [List.mem_singleton] at hy
      rw [hy]
      have:=hl3 x hx
      show x.to < (v:Int)+1
      omega
     ·intro x hx
      rcases List.mem_append.1 hx with hx | hx
      ·have:=hl3 x hx;omega
      ·rw [List.mem_singleton] at hx
       rw [hx]
       exact ⟨⟨by show 1≤(v:Int)+1;omega,by show (v:Int)+1≤_;omega⟩,c3,by show 1≤1+c;omega,by show 1+c≤1000;omega⟩
  ·simp (disch:=omega) only [↓pq,↓pj,ps,pz,↓reduceIte,Q0_,Q1_,Q2_,Q3_,Q4_,Q5_,Q6_,Q7_,Q8_,yJ_,yJ_,c2]
   refine ⟨⟨a,1,1+o,0,1+s,l,0,false⟩,i,h,rfl,⟨aNd_ (by omega) (by omega) (by omega) (aj6_ (fun x hx=>?_) hl2),by show 1+s≤5;omega,by show 1+o≤4;omega⟩,hi,hi'⟩
   have:=hl3 x hx
   omega
 ·by_cases c2:1+k=2
  ·obtain ⟨y,i,h,e5,r5,hi,hi'⟩:=z2_ hB hl h hi hi' 5 (by omega) (by omega)
   obtain ⟨c,i,h,e6,r6,hi,hi'⟩:=kA_ hB hl h hi hi' [0,1,2,5,60000] (by simp) (by simp)
   have r6:0≤c∧c≤60000:=by simp at r6;omega
   simp (disch:=omega) only [↓pq,↓pj,ps,pz,↓reduceIte,Q0_,Q1_,Q2_,Q3_,Q4_,Q5_,Q6_,Q7_,Q8_,yJ_,uW_,e1,e2,e3,e4,c2,e5,aKn_,e6]
   exact ⟨⟨a,2,1+o,1+y,1+s,[],c,false⟩,i,h,rfl,⟨aNs_ (by omega) (by omega) (by omega) (by omega) r6,by show 1+s≤5;omega,by show 1+o≤4;omega⟩,hi,hi'⟩
  ·have c3:1+k=3:=by omega
   obtain ⟨y,i,h,e5,r5,hi,hi'⟩:=z2_ hB hl h hi hi' 3 (by omega) (by omega)
   obtain ⟨c,i,h,e6,r6,hi,hi'⟩:=kA_ hB hl h hi hi' [1,2,5,60000] (by simp) (by simp)
   obtain ⟨f,i,h,e7,hi,hi'⟩:=v5_ hB hl h hi hi' 2 (by omega) (by omega)
   have r6:(1≤c∧c≤1000)∨c=60000:=by simp at r6;omega
   simp (disch:=omega) only [↓pq,↓pj,ps,pz,↓reduceIte,Q0_,Q1_,Q2_,Q3_,Q4_,Q5_,Q6_,Q7_,Q8_,yJ_,uW_,e1,e2,e3,e4,c3,e5,vE_,e6,e7]
   exact ⟨⟨9,3,1+o,1+y,1+s,[],c,f⟩,i,h,rfl,⟨aNk_ (by omega) (by omega) (by omega) r6,by show 1+s≤5;omega,by show 1+o≤4;omega⟩,hi,hi'⟩
def StoP (n:Nat) (s:List Rcd):Prop:=ze_ s=true∧s.length≤n∧(∀ r∈s,r.seq≤5)∧(s.filter wz_).length+(if n < 100 then 0 else 119)≤n
theorem StoP.ins {n:Nat} {s:List Rcd} (h:StoP n s) {r:Rcd} (hr:r.seq≤5) (hn:n≠99):StoP (n+1) (insR s r):=by
 refine ⟨aMq_ h.1 r,?_,fun x hx=>?_,?_⟩
 ·have:=h.2.1
  unfold insR
  split
  ·have:=agv_ s r;omega
  ·omega
 ·unfold insR at hx
  split at hx
  ·rcases wA_ hx with rfl | hx
   ·exact hr
   ·exact h.2.2.1 x hx
  ·exact h.2.2.1 x hx
 ·have h3:=h.2.2.2
  have h4:=ac0_ s r wz_
  have:((insR s r).filter wz_).length≤(s.filter wz_).length+1:=by
   unfold insR
   split
   ·split at h4 <;> omega
   ·omega
  split at h3 <;> split <;> omega
theorem StoP.nil:StoP 0 []:=⟨rfl,by simp,by simp,by simp⟩
theorem StoP.mono {n m:Nat} {s:List Rcd} (h:StoP n s) (hm:n≤m) (hk:n+119≤m∨100≤n∨m < 100):StoP m s:=by
 refine ⟨h.1,Nat.le_trans h.2.1 hm,h.2.2.1,?_⟩
 have h3:=h.2.2.2
 have h4:(s.filter wz_).length≤n:=Nat.le_trans (List.length_filter_le _ _) h.2.1
 split at h3 <;> split <;> omega
theorem atn_ {B:List Int} (hB:∀ x∈B,vA_ x) (hl:B.length≤1048576) {i:Int} (h:Int) (hi:0≤i) (hi':i≤B.length) :
  ∃ (s:List Rcd) (i' h':Int),w2_ [.l (B.map yl_),ii i,ii h]=some [.l (s.map eRcd),.l (B.map yl_),ii i',ii h']∧StoP 11 s∧0≤i'∧i'≤B.length:=by
 rw [at4_];simp (disch:=omega) only [↓pq,↓pj,ps,pz,↓reduceIte,Q0_,Q1_,Q2_,Q3_,Q4_,Q5_,Q6_,Q7_,Q8_,qe_,ab2_]
 refine w4_ (fun o=>∃ (s:List Rcd) (i' h':Int),o=some [.l (s.map eRcd),.l (B.map yl_),ii i',ii h']∧StoP 11 s∧0≤i'∧i'≤B.length)
  (fun m st=>∃ (k:Nat) (i h:Int) (s:List Rcd),st=[.l (s.map eRcd),ii k,.l (B.map yl_),ii i,ii h]∧k≤11∧(0≤i∧i≤B.length)∧StoP k s∧m=11 - k) ?_ 11 [.l [],ii 0,.l (B.map yl_),ii i,ii h] rounds ⟨0,i,h,[],rfl,by omega,⟨hi,hi'⟩,StoP.nil,rfl⟩ (by unfold rounds;omega)
 rintro m st q ⟨k,i,h,s,rfl,hk,⟨hi,hi'⟩,hs,rfl⟩ hq
 obtain ⟨d,i,h,e1,r1,hi,hi'⟩:=z2_ hB hl h hi hi' 12 (by omega) (by omega)
 by_cases c1:(k:Int) < d
 ·obtain ⟨r,i,h,e2,⟨r2,r3,_⟩,hi,hi'⟩:=ah6_ hB hl h hi hi'
  have hsl:=hs.2.1
  have e3:=jc_ s r (by omega) (j4_ hs.1) (yD_ hs.1) (by have:=ahk_ r2;omega)
  simp (disch:=omega) only [↓pq,↓pj,ps,pz,↓reduceIte,Q0_,Q1_,Q2_,Q3_,Q4_,Q5_,Q6_,Q7_,Q8_,qe_,e1,c1,e2,e3]
  exact hq (11 - (k+1)) _ (by omega) ⟨k+1,i,h,insR s r,by rw [uv_],by omega,⟨hi,hi'⟩,hs.ins r3 (by omega),rfl⟩
 ·simp (disch:=omega) only [↓pq,↓pj,ps,pz,↓reduceIte,Q0_,Q1_,Q2_,Q3_,Q4_,Q5_,Q6_,Q7_,Q8_,qe_,e1,c1]
  exact ⟨s,i,h,rfl,hs.mono hk (.inr (.inr (by decide))),hi,hi'⟩
end Go.Proofs.YtjimmglpkndemaaGreatC

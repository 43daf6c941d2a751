/- Drawn records, stores and nodes' own are right. Conditions: none. -/
import Derived.Test.YtlofiplkmgmnfaaXSEa
namespace Go.Proofs.YtlofiplkmgmnfaaC
open Int (reduceLE reduceLT reduceEq reduceGT reduceGE reduceAdd reduceSub reduceMul reduceNeg)
set_option linter.unusedVariables false
set_option linter.unusedSimpArgs false
theorem lit5_Int (a b c d e:Int):Prim.ev (.lit 1 [true,true,true,true,true]) [ii a,ii b,ii c,ii d,ii e]=some (.l ([a,b,c,d,e].map eInt)):=by simp [Prim.ev,masked,chunks,scal,eInt]
def RecP (B:List Int) (o:Option (List T)):Prop :=
 ∃ (r:Rcd) (i' h':Int),o=some [ii r.area,ii r.kind,ii r.owner,ii r.key,ii r.seq,.l (r.near.map eNear),ii r.cost,bb r.far,.l (B.map eByte),ii i',ii h']∧(recOk r=true∧r.seq≤5∧r.owner≤4)∧0≤i'∧i'≤B.length
theorem rec1_ok {a o s:Int} {l:List Near} (ha:0≤a∧a≤2) (ho:1≤o∧o≤6) (hs:1≤s∧s≤100000) (hl:nearOk o l=true):recOk ⟨a,1,o,0,s,l,0,false⟩=true:=by
 unfold recOk
 simp only [Bool.and_eq_true,inB_iff]
 refine ⟨⟨ho,hs⟩,?_⟩
 simp [inB_iff,ha,hl]
theorem rec2_mk {a o k s c:Int} (ha:0≤a∧a≤2) (ho:1≤o∧o≤6) (hk:1≤k∧k≤6) (hs:1≤s∧s≤100000) (hc:0≤c∧c≤60000):recOk ⟨a,2,o,k,s,[],c,false⟩=true:=by
 unfold recOk
 simp only [Bool.and_eq_true,inB_iff]
 refine ⟨⟨ho,hs⟩,?_⟩
 simp [inB_iff,ha,hk,hc]
theorem rec3_mk {o k s c:Int} {f:Bool} (ho:1≤o∧o≤6) (hk:1≤k∧k≤9) (hs:1≤s∧s≤100000) (hc:(1≤c∧c≤1000)∨c=60000):recOk ⟨9,3,o,k,s,[],c,f⟩=true:=by
 unfold recOk
 simp only [Bool.and_eq_true,inB_iff]
 refine ⟨⟨ho,hs⟩,?_⟩
 simp [inB_iff,hk,hc]
set_option maxHeartbeats 1000000 in
theorem e_s_l04Record {B:List Int} (hB:∀ x∈B,OkByte x) (hl:B.length≤1048576) {i:Int} (h:Int) (hi:0≤i) (hi':i≤B.length):RecP B (F_s_l04Record [.l (B.map eByte),ii i,ii h]):=by
 rw [g_s_l04Record]
 obtain ⟨k,i,h,e1,r1,hi,hi'⟩:=e_s_l01Below hB hl h hi hi' 3 (by omega) (by omega)
 obtain ⟨o,i,h,e2,r2,hi,hi'⟩:=e_s_l01Below hB hl h hi hi' 4 (by omega) (by omega)
 obtain ⟨a,i,h,e3,r3,hi,hi'⟩:=e_s_l01Below hB hl h hi hi' 3 (by omega) (by omega)
 obtain ⟨s,i,h,e4,r4,hi,hi'⟩:=e_s_l01Below hB hl h hi hi' 5 (by omega) (by omega)
 by_cases c1:1+k=1
 ·simp (disch:=omega) only [↓pq,↓pj,ps,pz,↓reduceIte,reduceLE,reduceLT,reduceEq,reduceGT,reduceGE,reduceAdd,reduceSub,reduceMul,reduceNeg,G_s_l04Record_l0,G_s_l04Record,e1,e2,e3,e4,c1]
  refine iter_post (RecP B) (fun m st=>∃ (v:Nat) (i h:Int) (l:List Near),st=[ii ((v:Int)+1),.l (B.map eByte),ii i,ii h,.l (l.map eNear)]∧v≤6∧(0≤i∧i≤B.length)∧(l.length≤v∧(l.Pairwise fun x y=>x.to < y.to)∧∀ x∈l,(1≤x.to∧x.to≤v)∧x.to≠1+o∧1≤x.cost∧x.cost≤1000)∧m=6 - v) ?_ 6
   [ii 1,.l (B.map eByte),ii i,ii h,.l []] rounds ⟨0,i,h,[],rfl,by omega,⟨hi,hi'⟩,⟨by simp,.nil,by simp⟩,rfl⟩ (by unfold rounds;omega)
  rintro m st q ⟨v,i,h,l,rfl,hv,⟨hi,hi'⟩,⟨hl1,hl2,hl3⟩,rfl⟩ hq
  by_cases c2:(v:Int)+1≤6
  ·have same:(l.Pairwise fun x y=>x.to < y.to)∧∀ x∈l,(1≤x.to∧x.to≤((v+1:Nat):Int))∧x.to≠1+o∧1≤x.cost∧x.cost≤1000:=⟨hl2,fun x hx=>by have:=hl3 x hx;omega⟩
   by_cases c3:(v:Int)+1=1+o
   ·simp (disch:=omega) only [↓pq,↓pj,ps,pz,↓reduceIte,reduceLE,reduceLT,reduceEq,reduceGT,reduceGE,reduceAdd,reduceSub,reduceMul,reduceNeg,G_s_l04Record_l0,G_s_l04Record_l0,c2,eq_true c3]
    exact hq (6 - (v+1)) _ (by omega) ⟨v+1,i,h,l,by rw [cast_S],by omega,⟨hi,hi'⟩,⟨by omega,same⟩,rfl⟩
   ·obtain ⟨f,i,h,e5,hi,hi'⟩:=e_s_l01Once hB hl h hi hi' 3 (by omega) (by omega)
    cases f with
    | false =>
     simp (disch:=omega) only [↓pq,↓pj,ps,pz,↓reduceIte,reduceLE,reduceLT,reduceEq,reduceGT,reduceGE,reduceAdd,reduceSub,reduceMul,reduceNeg,G_s_l04Record_l0,G_s_l04Record_l0,c2,c3,e5,Bool.false_eq_true]
     exact hq (6 - (v+1)) _ (by omega) ⟨v+1,i,h,l,by rw [cast_S],by omega,⟨hi,hi'⟩,⟨by omega,same⟩,rfl⟩
    | true =>
     obtain ⟨c,i,h,e6,r6,hi,hi'⟩:=e_s_l01Below hB hl h hi hi' 4 (by omega) (by omega)
     have elit:Prim.ev (.lit 2 [true,true]) [ii ((v:Int)+1),ii (1+c)]=some (.l ([(⟨(v:Int)+1,1+c⟩:Near)].map eNear)):=by simp [Prim.ev,masked,chunks,scal,eNear]
     have eapp:Prim.ev (.app true 2) [.l (l.map eNear),.l ([(⟨(v:Int)+1,1+c⟩:Near)].map eNear)]=some (.l ((l++[(⟨(v:Int)+1,1+c⟩:Near)]).map eNear)):=app1_Near_true (l:=l) (by omega)
     simp (disch:=omega) only [↓pq,↓pj,ps,pz,↓reduceIte,reduceLE,reduceLT,reduceEq,reduceGT,reduceGE,reduceAdd,reduceSub,reduceMul,reduceNeg,G_s_l04Record_l0,G_s_l04Record_l0,c2,c3,e5,e6,elit,eapp]
     refine hq (6 - (v+1)) _ (by omega) ⟨v+1,i,h,l++[⟨(v:Int)+1,1+c⟩],by rw [cast_S],by omega,⟨hi,hi'⟩,⟨by simp;omega,?_,?_⟩,rfl⟩
     ·rw [List.pairwise_append]
      refine ⟨hl2,List.pairwise_singleton _ _,fun x hx y hy=>?_⟩
      rw [List.mem_singleton] at hy
      rw [hy]
      have:=hl3 x hx
      show x.to < (v:Int)+1
      omega
     ·intro x hx
      rcases List.mem_append.1 hx with hx | hx
      ·have:=hl3 x hx;omega
      ·rw [List.mem_singleton] at hx
       rw [hx]
       exact ⟨⟨by show 1≤(v:Int)+1;omega,by show (v:Int)+1≤_;omega⟩,c3,by show 1≤1+c;omega,by show 1+c≤1000;omega⟩
  ·simp (disch:=omega) only [↓pq,↓pj,ps,pz,↓reduceIte,reduceLE,reduceLT,reduceEq,reduceGT,reduceGE,reduceAdd,reduceSub,reduceMul,reduceNeg,G_s_l04Record_l0,G_s_l04Record_l0,c2]
   refine ⟨⟨a,1,1+o,0,1+s,l,0,false⟩,i,h,rfl,⟨rec1_ok (by omega) (by omega) (by omega) (nearOk_of (fun x hx=>?_) hl2),by show 1+s≤5;omega,by show 1+o≤4;omega⟩,hi,hi'⟩
   have:=hl3 x hx
   omega
 ·by_cases c2:1+k=2
  ·obtain ⟨y,i,h,e5,r5,hi,hi'⟩:=e_s_l01Below hB hl h hi hi' 5 (by omega) (by omega)
   obtain ⟨c,i,h,e6,r6,hi,hi'⟩:=e_s_l01PickInt hB hl h hi hi' [0,1,2,5,60000] (by simp) (by simp)
   have r6:0≤c∧c≤60000:=by simp at r6;omega
   simp (disch:=omega) only [↓pq,↓pj,ps,pz,↓reduceIte,reduceLE,reduceLT,reduceEq,reduceGT,reduceGE,reduceAdd,reduceSub,reduceMul,reduceNeg,G_s_l04Record_l0,G_s_l04Record,e1,e2,e3,e4,c2,e5,lit5_Int,e6]
   exact ⟨⟨a,2,1+o,1+y,1+s,[],c,false⟩,i,h,rfl,⟨rec2_mk (by omega) (by omega) (by omega) (by omega) r6,by show 1+s≤5;omega,by show 1+o≤4;omega⟩,hi,hi'⟩
  ·have c3:1+k=3:=by omega
   obtain ⟨y,i,h,e5,r5,hi,hi'⟩:=e_s_l01Below hB hl h hi hi' 3 (by omega) (by omega)
   obtain ⟨c,i,h,e6,r6,hi,hi'⟩:=e_s_l01PickInt hB hl h hi hi' [1,2,5,60000] (by simp) (by simp)
   obtain ⟨f,i,h,e7,hi,hi'⟩:=e_s_l01Once hB hl h hi hi' 2 (by omega) (by omega)
   have r6:(1≤c∧c≤1000)∨c=60000:=by simp at r6;omega
   simp (disch:=omega) only [↓pq,↓pj,ps,pz,↓reduceIte,reduceLE,reduceLT,reduceEq,reduceGT,reduceGE,reduceAdd,reduceSub,reduceMul,reduceNeg,G_s_l04Record_l0,G_s_l04Record,e1,e2,e3,e4,c3,e5,lit4_Int,e6,e7]
   exact ⟨⟨9,3,1+o,1+y,1+s,[],c,f⟩,i,h,rfl,⟨rec3_mk (by omega) (by omega) (by omega) r6,by show 1+s≤5;omega,by show 1+o≤4;omega⟩,hi,hi'⟩
def StoP (n:Nat) (s:List Rcd):Prop:=storeOk s=true∧s.length≤n∧∀ r∈s,r.seq≤5
theorem StoP.ins {n:Nat} {s:List Rcd} (h:StoP n s) {r:Rcd} (hr:r.seq≤5):StoP (n+1) (insR s r):=by
 refine ⟨insR_ok h.1 r,?_,fun x hx=>?_⟩
 ·have:=h.2.1
  unfold insR
  split
  ·have:=putR_len s r;omega
  ·omega
 ·unfold insR at hx
  split at hx
  ·rcases mem_putR hx with rfl | hx
   ·exact hr
   ·exact h.2.2 x hx
  ·exact h.2.2 x hx
theorem StoP.nil:StoP 0 []:=⟨rfl,by simp,by simp⟩
theorem e_s_l05Store {B:List Int} (hB:∀ x∈B,OkByte x) (hl:B.length≤1048576) {i:Int} (h:Int) (hi:0≤i) (hi':i≤B.length) :
  ∃ (s:List Rcd) (i' h':Int),F_s_l05Store [.l (B.map eByte),ii i,ii h]=some [.l (s.map eRcd),.l (B.map eByte),ii i',ii h']∧StoP 11 s∧0≤i'∧i'≤B.length:=by
 rw [g_s_l05Store];simp (disch:=omega) only [↓pq,↓pj,ps,pz,↓reduceIte,reduceLE,reduceLT,reduceEq,reduceGT,reduceGE,reduceAdd,reduceSub,reduceMul,reduceNeg,G_s_l05Store_l0,G_s_l05Store]
 refine iter_post (fun o=>∃ (s:List Rcd) (i' h':Int),o=some [.l (s.map eRcd),.l (B.map eByte),ii i',ii h']∧StoP 11 s∧0≤i'∧i'≤B.length)
  (fun m st=>∃ (k:Nat) (i h:Int) (s:List Rcd),st=[.l (s.map eRcd),ii k,.l (B.map eByte),ii i,ii h]∧k≤11∧(0≤i∧i≤B.length)∧StoP k s∧m=11 - k) ?_ 11 [.l [],ii 0,.l (B.map eByte),ii i,ii h] rounds ⟨0,i,h,[],rfl,by omega,⟨hi,hi'⟩,StoP.nil,rfl⟩ (by unfold rounds;omega)
 rintro m st q ⟨k,i,h,s,rfl,hk,⟨hi,hi'⟩,hs,rfl⟩ hq
 obtain ⟨d,i,h,e1,r1,hi,hi'⟩:=e_s_l01Below hB hl h hi hi' 12 (by omega) (by omega)
 by_cases c1:(k:Int) < d
 ·obtain ⟨r,i,h,e2,⟨r2,r3,_⟩,hi,hi'⟩:=e_s_l04Record hB hl h hi hi'
  have hsl:=hs.2.1
  have e3:=install_F_s_l05Install s r (by omega) (storeOk_near hs.1) (storeOk_sorted hs.1) (by have:=rec_near r2;omega)
  simp (disch:=omega) only [↓pq,↓pj,ps,pz,↓reduceIte,reduceLE,reduceLT,reduceEq,reduceGT,reduceGE,reduceAdd,reduceSub,reduceMul,reduceNeg,G_s_l05Store_l0,e1,c1,e2,e3]
  exact hq (11 - (k+1)) _ (by omega) ⟨k+1,i,h,insR s r,by rw [cast_S],by omega,⟨hi,hi'⟩,hs.ins r3,rfl⟩
 ·simp (disch:=omega) only [↓pq,↓pj,ps,pz,↓reduceIte,reduceLE,reduceLT,reduceEq,reduceGT,reduceGE,reduceAdd,reduceSub,reduceMul,reduceNeg,G_s_l05Store_l0,e1,c1]
  exact ⟨s,i,h,rfl,⟨hs.1,Nat.le_trans hs.2.1 hk,hs.2.2⟩,hi,hi'⟩
def RecsP (o:Option (List T)):Prop:=∃ l:List Rcd,o=some [.l (l.map eRcd)]∧l.length≤13∧∀ r∈l,recOk r=true∧r.seq≤5
theorem records_tail {B:List Int} (hB:∀ x∈B,OkByte x) (hl:B.length≤1048576) {i h:Int} (hi:0≤i) (hi':i≤B.length) :
  RecsP (iter (G_s_DrawRecords_l0 F_s_l01Below F_s_l04Record) rounds [.l [],ii 0,.l (B.map eByte),ii i,ii h]):=by
 refine iter_post RecsP (fun m st=>∃ (k:Nat) (i h:Int) (l:List Rcd),st=[.l (l.map eRcd),ii k,.l (B.map eByte),ii i,ii h]∧k≤13∧(0≤i∧i≤B.length)∧l.length≤k∧(∀ r∈l,recOk r=true∧r.seq≤5)∧m=13 - k) ?_ 13 [.l [],ii 0,.l (B.map eByte),ii i,ii h] rounds ⟨0,i,h,[],rfl,by omega,⟨hi,hi'⟩,by simp,by simp,rfl⟩ (by unfold rounds;omega)
 rintro m st q ⟨k,i,h,l,rfl,hk,⟨hi,hi'⟩,hl1,hl2,rfl⟩ hq
 obtain ⟨d,i,h,e1,r1,hi,hi'⟩:=e_s_l01Below hB hl h hi hi' 14 (by omega) (by omega)
 by_cases c1:(k:Int) < d
 ·obtain ⟨r,i,h,e2,⟨r2,r3,_⟩,hi,hi'⟩:=e_s_l04Record hB hl h hi hi'
  simp (disch:=omega) only [↓pq,↓pj,ps,pz,↓reduceIte,reduceLE,reduceLT,reduceEq,reduceGT,reduceGE,reduceAdd,reduceSub,reduceMul,reduceNeg,G_s_DrawRecords_l0,G_s_DrawRecords_l1,G_s_DrawRecords_l2,G_s_DrawRecords_l0,e1,c1,e2]
  refine hq (13 - (k+1)) _ (by omega) ⟨k+1,i,h,l++[r],by rw [cast_S],by omega,⟨hi,hi'⟩,by simp;omega,fun x hx=>?_,rfl⟩
  rcases List.mem_append.1 hx with hx | hx
  ·exact hl2 x hx
  ·rw [List.mem_singleton.1 hx];exact ⟨r2,r3⟩
 ·simp (disch:=omega) only [↓pq,↓pj,ps,pz,↓reduceIte,reduceLE,reduceLT,reduceEq,reduceGT,reduceGE,reduceAdd,reduceSub,reduceMul,reduceNeg,G_s_DrawRecords_l0,G_s_DrawRecords_l1,G_s_DrawRecords_l2,G_s_DrawRecords_l0,e1,c1]
  exact ⟨l,rfl,by omega,hl2⟩
theorem e_s_DrawRecords {B:List Int} (hB:∀ x∈B,OkByte x) (hl:B.length≤1048576):RecsP (F_s_DrawRecords [.l (B.map eByte)]):=by
 rw [g_s_DrawRecords]
 have hn:Prim.ev .len [.l (B.map eByte)]=some (ii B.length):=ev_lenM
 simp (disch:=omega) only [↓pq,↓pj,ps,pz,↓reduceIte,reduceLE,reduceLT,reduceEq,reduceGT,reduceGE,reduceAdd,reduceSub,reduceMul,reduceNeg,G_s_DrawRecords_l0,G_s_DrawRecords_l1,G_s_DrawRecords_l2,G_s_DrawRecords,hn]
 refine new_post hB hl (Post:=RecsP) ?_ ?_ _
 ·intro q h k c1 c2
  obtain ⟨m,a,c,d,e1,e2,e3,e4,e5,e6,e7⟩:=step131 hB hl h c1
  exact ⟨d,by simp (disch:=omega) only [↓pq,↓pj,ps,pz,↓reduceIte,reduceLE,reduceLT,reduceEq,reduceGT,reduceGE,reduceAdd,reduceSub,reduceMul,reduceNeg,G_s_DrawRecords_l0,G_s_DrawRecords_l1,G_s_DrawRecords_l2,hn,c1,c2,e1,e2,e3,e4,e5,e6,e7]⟩
 ·intro q h k hk
  by_cases c1:(k:Int) < B.length
  ·have c2:¬ (k:Int) < 4000:=by omega
   simp (disch:=omega) only [↓pq,↓pj,ps,pz,↓reduceIte,reduceLE,reduceLT,reduceEq,reduceGT,reduceGE,reduceAdd,reduceSub,reduceMul,reduceNeg,G_s_DrawRecords_l0,G_s_DrawRecords_l1,G_s_DrawRecords_l2,hn,c1,c2]
   exact records_tail hB hl (by omega) (by omega)
  ·simp (disch:=omega) only [↓pq,↓pj,ps,pz,↓reduceIte,reduceLE,reduceLT,reduceEq,reduceGT,reduceGE,reduceAdd,reduceSub,reduceMul,reduceNeg,G_s_DrawRecords_l0,G_s_DrawRecords_l1,G_s_DrawRecords_l2,hn,c1]
   exact records_tail hB hl (by omega) (by omega)
end Go.Proofs.YtlofiplkmgmnfaaC

/- Drawn numbers: whatever the bytes are, what is drawn is in its bounds. Conditions: none. -/
import Derived.Test.YtbhplkilhknciaaDoorXSU
namespace Go.Proofs.YtbhplkilhknciaaDoorC
open Int (reduceLE reduceLT reduceEq reduceGT reduceGE reduceAdd reduceSub reduceMul reduceNeg)
set_option linter.unusedVariables false
set_option linter.unusedSimpArgs false
abbrev u8 (n:Int):T:=.c (.int .u8 n)
def eByte (n:Int):List T:=[u8 n]
def yByte:List Ty:=[.i .u8]
def OkByte (n:Int):Prop:=0≤n∧n≤255
theorem dByte (r:List T) (h:WTs yByte r):∃ n,r=eByte n∧OkByte n:=by
 obtain ⟨_,_,rfl,⟨n,rfl,hn⟩,rfl⟩:=WTsU_of h
 refine ⟨n,rfl,?_⟩
 simp [Lit.wf,IntKind.min,IntKind.max,IntKind.signed,IntKind.bits] at hn
 unfold OkByte;omega
theorem cell_Byte {l:List Int} {n:Int} (h:0≤n) (h':n < l.length):Prim.ev (.cell 1 0) [.l (l.map eByte),ii n]=some (u8 (gt l n)):=ev_cellZ h (gt_get h h') rfl rfl
theorem ev_cnv8 {n:Int} (h:0≤n) (h':n≤255):Prim.ev (.cnv .i64) [u8 n]=some (ii n):=by
 simp only [Prim.ev,wrap64 (n:=n) (by omega) (by omega)]
theorem ev_and255 (a:Int):∃ x,Prim.ev (.bin .and) [ii a,ii 255]=some (ii x)∧0≤x∧x≤255:=by
 have h:(BitVec.ofInt 64 a &&& BitVec.ofInt 64 255).toNat≤255:=by
  rw [BitVec.toNat_and]
  exact Nat.le_trans Nat.and_le_right (by decide)
 refine ⟨((BitVec.ofInt 64 a &&& BitVec.ofInt 64 255).toNat:Nat),?_,by omega,by omega⟩
 simp only [Prim.ev,T.val,binV,Option.bind_some,if_true]
 show some (ii (IntKind.i64.wrap (((BitVec.ofInt 64 a &&& BitVec.ofInt 64 255).toNat:Nat):Int)))=_
 rw [wrap64 (by omega) (by omega)]
theorem ev_andw (a b:Int):∃ x,Prim.ev (.bin .and) [ii a,ii b]=some (ii x):=⟨_,by simp only [Prim.ev,T.val,binV,Option.bind_some,if_true];rfl⟩
theorem ev_xorw (a b:Int):∃ x,Prim.ev (.bin .xor) [ii a,ii b]=some (ii x):=⟨_,by simp only [Prim.ev,T.val,binV,Option.bind_some,if_true];rfl⟩
theorem ev_shr33 (a:Int):∃ x,Prim.ev (.bin .shr) [ii a,.c (.int .u64 33)]=some (ii x):=⟨_,by simp only [Prim.ev,T.val,binV,Option.bind_some];rfl⟩
theorem ev_shr45 (a:Int):∃ x,Prim.ev (.bin .shr) [ii a,.c (.int .u64 45)]=some (ii x):=⟨_,by simp only [Prim.ev,T.val,binV,Option.bind_some];rfl⟩
theorem e_s_l01Byte {B:List Int} (hB:∀ x∈B,OkByte x) (hl:B.length≤1048576) {i:Int} (h:Int) (hi:0≤i) (hi':i≤B.length) :
  ∃ x i' h',F_s_l01Byte [.l (B.map eByte),ii i,ii h]=some [ii x,.l (B.map eByte),ii i',ii h']∧(0≤x∧x≤255)∧0≤i'∧i'≤B.length:=by
 rw [g_s_l01Byte]
 obtain ⟨m,hm⟩:∃ m,Prim.ev (.bin .mul) [ii h,ii 6364136223846793005]=some (ii m):=⟨_,ev_mul _ _ _⟩
 obtain ⟨g,hg⟩:∃ g,Prim.ev (.bin .add) [ii m,ii 1442695040888963407]=some (ii g):=⟨_,ev_add _ _ _⟩
 obtain ⟨s1,h1⟩:=ev_shr33 g
 obtain ⟨s2,h2⟩:=ev_shr45 g
 obtain ⟨x0,h3⟩:=ev_xorw s1 s2
 obtain ⟨x1,h4,r1,r2⟩:=ev_and255 x0
 have hn:Prim.ev .len [.l (B.map eByte)]=some (ii B.length):=ev_lenM
 by_cases hc:i < B.length
 ·have hx:=hB _ (gt_mem hi hc)
  obtain ⟨x2,h5,r3,r4⟩:=ev_and255 (x1+gt B i)
  have hb:=ev_bndZ (enc:=eByte) hi hc
  refine ⟨x2,i+1,g,?_,⟨r3,r4⟩,by omega,by omega⟩
  have w1:=hx.1
  have w2:=hx.2
  simp (disch:=omega) only [↓pq,↓pj,ps,pz,↓reduceIte,reduceLE,reduceLT,reduceEq,reduceGT,reduceGE,reduceAdd,reduceSub,reduceMul,reduceNeg,G_s_l01Byte,hm,hg,h1,h2,h3,h4,hn,hc,hb,cell_Byte hi hc,ev_cnv8 w1 w2,h5]
 ·refine ⟨x1,i,g,?_,⟨r1,r2⟩,hi,hi'⟩
  simp (disch:=omega) only [↓pq,↓pj,ps,pz,↓reduceIte,reduceLE,reduceLT,reduceEq,reduceGT,reduceGE,reduceAdd,reduceSub,reduceMul,reduceNeg,G_s_l01Byte,hm,hg,h1,h2,h3,h4,hn,hc]
theorem e_s_l01Below {B:List Int} (hB:∀ x∈B,OkByte x) (hl:B.length≤1048576) {i:Int} (h:Int) (hi:0≤i) (hi':i≤B.length) (n:Int) (hn:1≤n) (hn':n≤4294967296) :
  ∃ x i' h',F_s_l01Below [.l (B.map eByte),ii i,ii h,ii n]=some [ii x,.l (B.map eByte),ii i',ii h']∧(0≤x∧x < n)∧0≤i'∧i'≤B.length:=by
 rw [g_s_l01Below]
 have h0:¬ n≤0:=by omega
 obtain ⟨x,i1,h1,e1,r1,p1,p2⟩:=e_s_l01Byte hB hl h hi hi'
 have hz:n≠0:=by omega
 by_cases hc:n≤256
 ·refine ⟨x.tmod n,i1,h1,?_,⟨Int.tmod_nonneg _ r1.1,Int.tmod_lt_of_pos _ (by omega)⟩,p1,p2⟩
  simp (disch:=omega) only [↓pq,↓pj,ps,pz,↓reduceIte,reduceLE,reduceLT,reduceEq,reduceGT,reduceGE,reduceAdd,reduceSub,reduceMul,reduceNeg,G_s_l01Below,h0,hc,e1,hz]
 ·obtain ⟨y,i2,h2,e2,r2,p3,p4⟩:=e_s_l01Byte hB hl h1 p1 p2
  obtain ⟨z,i3,h3,e3,r3,p5,p6⟩:=e_s_l01Byte hB hl h2 p3 p4
  obtain ⟨w,i4,h4,e4,r4,p7,p8⟩:=e_s_l01Byte hB hl h3 p5 p6
  refine ⟨(x * 16777216+y * 65536+z * 256+w).tmod n,i4,h4,?_,⟨Int.tmod_nonneg _ (by omega),Int.tmod_lt_of_pos _ (by omega)⟩,p7,p8⟩
  simp (disch:=omega) only [↓pq,↓pj,ps,pz,↓reduceIte,reduceLE,reduceLT,reduceEq,reduceGT,reduceGE,reduceAdd,reduceSub,reduceMul,reduceNeg,G_s_l01Below,h0,hc,e1,e2,e3,e4,hz]
theorem e_s_l01Once {B:List Int} (hB:∀ x∈B,OkByte x) (hl:B.length≤1048576) {i:Int} (h:Int) (hi:0≤i) (hi':i≤B.length) (n:Int) (hn:1≤n) (hn':n≤4294967296) :
  ∃ x i' h',F_s_l01Once [.l (B.map eByte),ii i,ii h,ii n]=some [bb x,.l (B.map eByte),ii i',ii h']∧0≤i'∧i'≤B.length:=by
 rw [g_s_l01Once]
 obtain ⟨x,i1,h1,e1,r1,p1,p2⟩:=e_s_l01Below hB hl h hi hi' n hn hn'
 refine ⟨x == 0,i1,h1,?_,p1,p2⟩
 simp (disch:=omega) only [↓pq,↓pj,ps,pz,↓reduceIte,reduceLE,reduceLT,reduceEq,reduceGT,reduceGE,reduceAdd,reduceSub,reduceMul,reduceNeg,G_s_l01Once,e1]
 try rfl
theorem e_s_l01PickInt {B:List Int} (hB:∀ x∈B,OkByte x) (hl:B.length≤1048576) {i:Int} (h:Int) (hi:0≤i) (hi':i≤B.length) (l:List Int) (hn:1≤l.length) (hn':l.length≤1048576) :
  ∃ x i' h',F_s_l01PickInt [.l (B.map eByte),ii i,ii h,.l (l.map eInt)]=some [ii x,.l (B.map eByte),ii i',ii h']∧x∈l∧0≤i'∧i'≤B.length:=by
 rw [g_s_l01PickInt]
 obtain ⟨x,i1,h1,e1,r1,p1,p2⟩:=e_s_l01Below hB hl h hi hi' l.length (by omega) (by omega)
 have:=r1.1
 have:=r1.2
 refine ⟨gt l x,i1,h1,?_,gt_mem r1.1 r1.2,p1,p2⟩
 simp (disch:=omega) only [↓pq,↓pj,ps,pz,↓reduceIte,reduceLE,reduceLT,reduceEq,reduceGT,reduceGE,reduceAdd,reduceSub,reduceMul,reduceNeg,G_s_l01PickInt,e1]
theorem iter_post {β σ:Type} {F:(σ→Option β)→σ→Option β} (Post:Option β→Prop) (Inv:Nat→σ→Prop) (step:∀ m s q,Inv m s→(∀ m' s',m' < m→Inv m' s'→Post (q s'))→Post (F q s)) :
  ∀ m s R,Inv m s→m < R→Post (iter F R s)
 | m,s,0,_,hR=>absurd hR (Nat.not_lt_zero _)
 | m,s,R+1,hI,hR=>by
  unfold iter
  exact step m s _ hI fun m' s' hm hI'=>iter_post Post Inv step m' s' R hI' (by omega)
theorem new_post {B:List Int} (hB:∀ x∈B,OkByte x) (hl:B.length≤1048576) {F:Sem1→Sem1} {Post:Option (List T)→Prop}
  (hF:∀ q (h:Int) (k:Nat),(k:Int) < B.length→(k:Int) < 4000→∃ h',F q [ii h,ii k]=q [ii h',ii (k+1)])
  (fin:∀ q (h:Int) (k:Nat),(k≤B.length∧k≤4000∧(¬ (k:Int) < B.length∨¬ (k:Int) < 4000))→Post (F q [ii h,ii k])) (h:Int):Post (iter F rounds [ii h,ii 0]):=by
 refine iter_post Post (fun m s=>∃ (h:Int) (k:Nat),s=[ii h,ii k]∧k≤B.length∧k≤4000∧m=4000 - k) ?_ 4000 _ rounds ⟨h,0,rfl,by omega,by omega,rfl⟩ (by unfold rounds;omega)
 rintro m s q ⟨h,k,rfl,h1,h2,rfl⟩ hq
 by_cases c1:(k:Int) < B.length
 ·by_cases c2:(k:Int) < 4000
  ·obtain ⟨h',e⟩:=hF q h k c1 c2
   rw [e]
   exact hq (4000 - (k+1)) _ (by omega) ⟨h',k+1,by rw [cast_S],by omega,by omega,rfl⟩
  ·exact fin q h k ⟨h1,h2,.inr c2⟩
 ·exact fin q h k ⟨h1,h2,.inl c1⟩
end Go.Proofs.YtbhplkilhknciaaDoorC

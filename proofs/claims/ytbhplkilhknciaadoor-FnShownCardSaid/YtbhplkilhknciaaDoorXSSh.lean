/- Texts: numerals, and what is shown of a route. Conditions: none. -/
import Derived.Test.YtbhplkilhknciaaDoorXGS
namespace Go.Proofs.YtbhplkilhknciaaDoorC
open Int (reduceLE reduceLT reduceEq reduceGT reduceGE reduceAdd reduceSub reduceMul reduceNeg)
set_option linter.unusedVariables false
set_option linter.unusedSimpArgs false
def st (l:List UInt8):T:=.c (.string ⟨l.toArray⟩)
theorem ev_addst {a b:List UInt8} (h:a.length+b.length < 4294967296):Prim.ev (.bin .add) [st a,st b]=some (st (a++b)):=by
 have h2:(⟨a.toArray⟩:ByteArray).size+(⟨b.toArray⟩:ByteArray).size < cap32:=by
  show a.toArray.size+b.toArray.size < 4294967296
  simpa using h
 have h3:(⟨a.toArray⟩:ByteArray)++⟨b.toArray⟩=⟨(a++b).toArray⟩:=by
  apply ByteArray.ext
  rw [ByteArray.data_append]
  simp
 simp only [st,Prim.ev,T.val,Option.bind_some,binV,if_pos h2,h3]
theorem ev_sclst (a:List UInt8):Prim.ev .scl [st a]=some (st a):=by simp [st,Prim.ev,scal]
theorem Ya_st {a b:List UInt8} (h:a.length+b.length < 4294967296) (k:T→Option (List T)):Ya (st a) (st b) k=k (st (a++b)):=by
 rw [Ya_s,ev_addst h];rfl
theorem Yz_st (a:List UInt8) (k:T→Option (List T)):Yz (st a) k=k (st a):=by
 rw [Yz_s,ev_sclst];rfl
theorem wrap8 {n:Int} (h:0≤n) (h':n < 256):IntKind.u8.wrap n=n:=by
 simp [IntKind.wrap,IntKind.bits,IntKind.signed];omega
theorem e_s_l01Figure {d:Int} (h:0≤d) (h':d < 10):F_s_l01Figure [ii d]=some [.c (.int .u8 (48+d))]:=by
 rw [g_s_l01Figure]
 unfold G_s_l01Figure
 have h1:IntKind.u8.wrap (48+d)=48+d:=wrap8 (by omega) (by omega)
 simp (disch:=omega) only [↓pq,↓pj,ps,pz,↓reduceIte,reduceLE,reduceLT,reduceEq,reduceGT,reduceGE,reduceAdd,reduceSub,reduceMul,reduceNeg,h']
 simp only [pv_s,Yz_s,Prim.ev,h1,scal,Option.bind_some,if_true]
def dgs (m:Nat):List UInt8:=if m=0 then [] else Go.Lib.decDigits m
theorem dgs_step {m:Nat} (h:m≠0):dgs m=dgs (m / 10)++[UInt8.ofNat (48+m % 10)]:=by
 unfold dgs
 rw [if_neg h]
 by_cases h1:m < 10
 ·rw [Go.Lib.decDigits_one h1,if_pos (by omega),List.nil_append]
  congr 2;omega
 ·rw [if_neg (by omega),Go.Lib.decDigits,dif_neg h1]
theorem dec_len:∀ (k m:Nat),1≤k→m < 10 ^ k→(Go.Lib.decDigits m).length≤k
 | 0,_,h,_=>by omega
 | k+1,m,_,h=>by
  by_cases h1:m < 10
  ·rw [Go.Lib.decDigits_one h1];simp
  ·rw [Go.Lib.decDigits,dif_neg h1,List.length_append]
   have h2:m / 10 < 10 ^ k:=by rw [Nat.pow_succ] at h;omega
   have h3:1≤k:=by
    cases k with
    | zero=>simp at h2;omega
    | succ k=>omega
   have:=dec_len k (m / 10) h3 h2
   simpa using this
theorem itoa_len {n:Int} (h:I64 n):(Go.Lib.itoa n).length≤20:=by
 have:=h.lo;have:=h.hi
 unfold Go.Lib.itoa
 split
 ·have:=dec_len 19 n.natAbs (by omega) (by omega)
  simp;omega
 ·have:=dec_len 19 n.toNat (by omega) (by omega)
  omega
theorem dec_loop (b:Bool):∀ (k:Nat) (n:Int) (s:List UInt8) (R:Nat),n.natAbs < 10 ^ k→k≤19→k+s.length≤30→k < R→I64 n →
  iter (G_s_Decimal_l0 F_s_l01Figure (bb b)) R [ii n,st s]=some [st (if b then 45 :: (dgs n.natAbs++s) else dgs n.natAbs++s)]
 | k,n,s,0,hk,h19,hs,hR,hn=>by omega
 | k,n,s,R+1,hk,h19,hs,hR,hn=>by
  have hl:=hn.lo;have hh:=hn.hi
  rw [show iter (G_s_Decimal_l0 F_s_l01Figure (bb b)) (R+1) [ii n,st s]=G_s_Decimal_l0 F_s_l01Figure (bb b) (iter (G_s_Decimal_l0 F_s_l01Figure (bb b)) R) [ii n,st s] from rfl]
  by_cases h0:n=0
  ·subst h0
   unfold G_s_Decimal_l0
   have e0:dgs (Int.natAbs 0)=[]:=rfl
   rw [e0]
   cases b with
   | false =>
    simp (disch:=omega) only [↓pq,↓pj,ps,pz,↓reduceIte,reduceLE,reduceLT,reduceEq,reduceGT,reduceGE,reduceAdd,reduceSub,reduceMul,reduceNeg,G_s_Decimal_l0,ev_sclst]
    simp
   | true =>
    have ha:=ev_addst (a:=[45]) (b:=s) (by simp;omega)
    have e45:T.c (.string (ByteArray.mk #[45]))=st [45]:=rfl
    simp (disch:=omega) only [↓pq,↓pj,ps,pz,↓reduceIte,reduceLE,reduceLT,reduceEq,reduceGT,reduceGE,reduceAdd,reduceSub,reduceMul,reduceNeg,G_s_Decimal_l0,e45,ha,ev_sclst]
    simp
  ·cases k with
   | zero=>simp at hk;omega
   | succ k =>
    have hq:(n.tdiv 10).natAbs=n.natAbs / 10:=by rw [Int.natAbs_tdiv];rfl
    have hr:(n.tmod 10).natAbs=n.natAbs % 10:=by rw [Int.natAbs_tmod];rfl
    have hq2:I64 (n.tdiv 10):=I64.mk (by omega) (by omega)
    have hw:IntKind.i64.wrap (n.tdiv 10)=n.tdiv 10:=wrap64 hq2.lo hq2.hi
    have ih:=dec_loop b k (n.tdiv 10) (UInt8.ofNat (48+n.natAbs % 10) :: s) R (by rw [hq];rw [Nat.pow_succ] at hk;omega) (by omega) (by simp;omega) (by omega) hq2
    rw [hq] at ih
    have hd:=dgs_step (m:=n.natAbs) (by omega)
    have e2:dgs (n.natAbs / 10)++UInt8.ofNat (48+n.natAbs % 10) :: s=dgs n.natAbs++s:=by rw [hd,List.append_assoc];rfl
    rw [e2] at ih
    generalize iter (G_s_Decimal_l0 F_s_l01Figure (bb b)) R=K at ih ⊢
    have hdiv:Prim.ev (.bin .quo) [ii n,ii 10]=some (ii (n.tdiv 10)):=by simp [Prim.ev,T.val,binV,hw]
    have key:∀ d:Int,d=((n.natAbs % 10:Nat):Int)→(cl1 (F_s_l01Figure [ii d]) fun a9=>(Prim.ev (.lit 1 [true]) [a9]).bind fun a10=>(Prim.ev .str [a10]).bind fun a11=>(Prim.ev (.bin .add) [a11,st s]).bind fun a12 =>
      (Prim.ev (.bin .quo) [ii n,ii 10]).bind fun a13=>K [a13,a12])=some [st (if b then 45 :: (dgs n.natAbs++s) else dgs n.natAbs++s)]:=by
     intro d hde
     have e3:Prim.ev (.lit 1 [true]) [T.c (.int .u8 (48+d))]=some (.l [[.c (.int .u8 (48+d))]]):=by simp [Prim.ev,masked,chunks,scal]
     have e4:Prim.ev .str [.l [[T.c (.int .u8 (48+d))]]]=some (st [UInt8.ofNat (48+n.natAbs % 10)]):=by
      rw [show 48+n.natAbs % 10=(48+d).toNat by omega]
      simp [Prim.ev,bytesOf,byteOf,strOf,st]
     rw [e_s_l01Figure (by omega) (by omega),cl1_s,e3,Option.bind_some,e4,Option.bind_some,ev_addst (by simp;omega),Option.bind_some,hdiv,Option.bind_some]
     exact ih
    unfold G_s_Decimal_l0
    have hrem:Prim.ev (.bin .rem) [ii n,ii 10]=some (ii (n.tmod 10)):=ev_rem64 n 10 (by omega)
    by_cases hneg:n.tmod 10 < 0
    ·have hnw:Prim.ev (.un .neg) [ii (n.tmod 10)]=some (ii (- n.tmod 10)):=by
      have hb:IntKind.i64.wrap (0 - n.tmod 10)=- n.tmod 10:=by rw [wrap64 (by omega) (by omega)];omega
      simp only [Prim.ev,T.val,unV,Option.bind_some,hb]
     simp (disch:=omega) only [↓pq,ps,pz,↓reduceIte,reduceLE,reduceLT,reduceEq,reduceGT,reduceGE,reduceAdd,reduceSub,reduceMul,reduceNeg,G_s_Decimal_l0,h0,hneg,jn_s,hrem,hnw]
     exact key (-n.tmod 10) (by omega)
    ·simp (disch:=omega) only [↓pq,ps,pz,↓reduceIte,reduceLE,reduceLT,reduceEq,reduceGT,reduceGE,reduceAdd,reduceSub,reduceMul,reduceNeg,G_s_Decimal_l0,h0,hneg,jn_s,hrem]
     exact key (n.tmod 10) (by omega)
theorem e_s_Decimal {n:Int} (hn:I64 n):F_s_Decimal [ii n]=some [st (Go.Lib.itoa n)]:=by
 have hl:=hn.lo;have hh:=hn.hi
 rw [g_s_Decimal]
 unfold G_s_Decimal
 by_cases h0:n=0
 ·subst h0
  have e48:T.c (.string (ByteArray.mk #[48]))=st [48]:=rfl
  simp (disch:=omega) only [↓pq,↓pj,ps,pz,↓reduceIte,reduceLE,reduceLT,reduceEq,reduceGT,reduceGE,reduceAdd,reduceSub,reduceMul,reduceNeg,G_s_Decimal_l0,e48,ev_sclst]
  simp [Go.Lib.itoa,Go.Lib.decDigits_one]
 ·have hL:∀ b,iter (G_s_Decimal_l0 F_s_l01Figure (bb b)) rounds [ii n,st []]=some [st (if b then 45 :: (dgs n.natAbs++[]) else dgs n.natAbs++[])]:=fun b =>
   dec_loop b 19 n [] rounds (by omega) (by omega) (by simp) (by unfold rounds;omega) hn
  have e0:T.c (.string (ByteArray.mk #[]))=st []:=rfl
  rw [e0]
  by_cases hneg:n < 0
  ·simp (disch:=omega) only [↓pq,↓pj,ps,pz,↓reduceIte,reduceLE,reduceLT,reduceEq,reduceGT,reduceGE,reduceAdd,reduceSub,reduceMul,reduceNeg,G_s_Decimal_l0,h0,hneg]
   show iter (G_s_Decimal_l0 F_s_l01Figure (bb true)) rounds [ii n,st []]=_
   rw [hL true]
   have:dgs n.natAbs=Go.Lib.decDigits n.natAbs:=by unfold dgs;rw [if_neg (by omega)]
   simp [Go.Lib.itoa,hneg,this]
  ·simp (disch:=omega) only [↓pq,↓pj,ps,pz,↓reduceIte,reduceLE,reduceLT,reduceEq,reduceGT,reduceGE,reduceAdd,reduceSub,reduceMul,reduceNeg,G_s_Decimal_l0,h0,hneg]
   show iter (G_s_Decimal_l0 F_s_l01Figure (bb false)) rounds [ii n,st []]=_
   rw [hL false]
   have:dgs n.natAbs=Go.Lib.decDigits n.toNat:=by unfold dgs;rw [if_neg (by omega)];congr 1;omega
   simp [Go.Lib.itoa,hneg,this]
theorem e_i_Decimal {n:Int} (hn:I64 n):F_i_Decimal [ii n]=some [st (Go.Lib.itoa n)]:=by
 have hl:=hn.lo;have hh:=hn.hi
 rw [g_i_Decimal]
 unfold G_i_Decimal
 have:F_strconv_Itoa [ii n]=some [st (Go.Lib.itoa n)]:=by
  show (if _ then _ else _)=_
  rw [if_pos (by omega)];rfl
 rw [this,cl1_s,Yz_st]
def hopT (l:List Int):List UInt8:=l.flatMap fun h=>32 :: Go.Lib.itoa h
def showT (th:Bool) (to kd cost far:Int) (hops:List Int):List UInt8 :=
 (if th=true then [116,104,105,110,103,32] else [110,111,100,101,32])++(Go.Lib.itoa to++([32,99,111,115,116,32]++(Go.Lib.itoa cost++((if kd=4 then [32,102,97,114,32]++Go.Lib.itoa far else [])++([32,98,121]++hopT hops)))))
theorem hopT_len {l:List Int} (h:∀ x∈l,I64 x):(hopT l).length≤21 * l.length:=by
 induction l with
 | nil=>simp [hopT]
 | cons a l ih =>
  have h1:=itoa_len (h a (.head _))
  have h2:=ih fun x hx=>h x (.tail _ hx)
  simp only [hopT,List.flatMap_cons,List.length_append,List.length_cons] at h2 ⊢
  omega
theorem hopT_take (l:List Int) (i:Nat) (hi:i < l.length):hopT (l.take i)++(32 :: Go.Lib.itoa l[i])=hopT (l.take (i+1)):=by
 rw [List.take_succ_eq_append_getElem hi]
 unfold hopT
 rw [List.flatMap_append]
 simp only [List.flatMap_cons,List.flatMap_nil,List.append_nil]
theorem show_len {th:Bool} {to kd cost far:Int} {l:List Int} (h1:I64 to) (h2:I64 cost) (h3:I64 far) (hl:∀ x∈l,I64 x):(showT th to kd cost far l).length≤84+21 * l.length:=by
 have g1:=itoa_len h1
 have g2:=itoa_len h2
 have g3:=itoa_len h3
 have g4:=hopT_len hl
 unfold showT
 simp only [List.length_append]
 have e1:(if th=true then ([116,104,105,110,103,32]:List UInt8) else [110,111,100,101,32]).length≤6:=by split <;> simp
 have e2:(if kd=4 then ([32,102,97,114,32]:List UInt8)++Go.Lib.itoa far else []).length≤25:=by
  split
  ·rw [List.length_append];simp;omega
  ·simp
 simp only [List.length_cons,List.length_nil]
 omega
theorem i_hops (l:List Int) (hl:∀ x∈l,I64 x) (hn:l.length≤1048576) (p:List UInt8) (hp:p.length≤100) :
  iter (G_i_ShowRoute_l0 F_i_Decimal (.l (l.map eInt)) (ii l.length)) rounds [st p,ii 0]=some [st (p++hopT l)]:=by
 have hlen:∀ i,(hopT (l.take i)).length≤21 * 1048576:=fun i=>by
  have h1:=hopT_len (l:=l.take i) fun x hx=>hl x (List.mem_of_mem_take hx)
  have h2:(l.take i).length≤l.length:=by rw [List.length_take];omega
  omega
 have key:∀ (m i R:Nat),i+m=l.length→m < R→iter (G_i_ShowRoute_l0 F_i_Decimal (.l (l.map eInt)) (ii l.length)) R [st (p++hopT (l.take i)),ii i]=some [st (p++hopT l)]:=by
  intro m
  induction m with
  | zero =>
   intro i R hi hR
   obtain ⟨R,rfl⟩:∃ R',R=R'+1:=⟨R - 1,by omega⟩
   rw [show ∀ x,iter (G_i_ShowRoute_l0 F_i_Decimal (.l (l.map eInt)) (ii l.length)) (R+1) x=G_i_ShowRoute_l0 F_i_Decimal (.l (l.map eInt)) (ii l.length) (iter (G_i_ShowRoute_l0 F_i_Decimal (.l (l.map eInt)) (ii l.length)) R) x from fun _=>rfl]
   generalize iter (G_i_ShowRoute_l0 F_i_Decimal (.l (l.map eInt)) (ii l.length)) R=K
   have e1:l.take i=l:=List.take_of_length_le (by omega)
   rw [e1]
   unfold G_i_ShowRoute_l0
   have h1:¬ ((i:Int) < l.length):=by omega
   simp (disch:=omega) only [↓pq,↓pj,ps,pz,↓reduceIte,reduceLE,reduceLT,reduceEq,reduceGT,reduceGE,reduceAdd,reduceSub,reduceMul,reduceNeg,G_i_ShowRoute_l0,h1,ev_sclst]
  | succ m ih =>
   intro i R hi hR
   obtain ⟨R,rfl⟩:∃ R',R=R'+1:=⟨R - 1,by omega⟩
   have h2:=ih (i+1) R (by omega) (by omega)
   rw [show ∀ x,iter (G_i_ShowRoute_l0 F_i_Decimal (.l (l.map eInt)) (ii l.length)) (R+1) x=G_i_ShowRoute_l0 F_i_Decimal (.l (l.map eInt)) (ii l.length) (iter (G_i_ShowRoute_l0 F_i_Decimal (.l (l.map eInt)) (ii l.length)) R) x from fun _=>rfl]
   generalize iter (G_i_ShowRoute_l0 F_i_Decimal (.l (l.map eInt)) (ii l.length)) R=K at h2 ⊢
   unfold G_i_ShowRoute_l0
   have h1:(i:Int) < l.length:=by omega
   have hx:I64 (gt l i):=by rw [gt_elem (by omega)];exact hl _ (List.getElem_mem _)
   have e2:=e_i_Decimal hx
   have e32:T.c (.string (ByteArray.mk #[32]))=st [32]:=rfl
   have a1:=ev_addst (a:=[32]) (b:=Go.Lib.itoa (gt l i)) (by have:=itoa_len hx;simp only [List.length_cons,List.length_nil];omega)
   have a2:=ev_addst (a:=p++hopT (l.take i)) (b:=[32]++Go.Lib.itoa (gt l i)) (by have:=hlen i;have:=itoa_len hx;simp only [List.length_append,List.length_cons,List.length_nil];omega)
   have e3:p++hopT (l.take i)++([32]++Go.Lib.itoa (gt l i))=p++hopT (l.take (i+1)):=by
    rw [← hopT_take l i (by omega),gt_elem (by omega)]
    simp
   rw [e3] at a2
   simp (disch:=omega) only [↓pq,↓pj,ps,pz,↓reduceIte,reduceLE,reduceLT,reduceEq,reduceGT,reduceGE,reduceAdd,reduceSub,reduceMul,reduceNeg,G_i_ShowRoute_l0,h1,e32,a1,a2,e2]
   exact h2
 have:=key l.length 0 rounds (by omega) (by unfold rounds;omega)
 simpa [hopT] using this
theorem c_thing:T.c (.string (ByteArray.mk #[116,104,105,110,103,32]))=st [116,104,105,110,103,32]:=rfl
theorem c_node:T.c (.string (ByteArray.mk #[110,111,100,101,32]))=st [110,111,100,101,32]:=rfl
theorem c_cost:T.c (.string (ByteArray.mk #[32,99,111,115,116,32]))=st [32,99,111,115,116,32]:=rfl
theorem e_i_ShowRoute {th:Bool} {to kd cost far:Int} {l:List Int} (h1:I64 to) (h2:I64 cost) (h3:I64 far) (hl:∀ x∈l,I64 x) (hn:l.length≤1048576) :
  F_i_ShowRoute [bb th,ii to,ii kd,ii cost,ii far,.l (l.map eInt)]=some [st (showT th to kd cost far l)]:=by
 have g1:=itoa_len h1
 have g2:=itoa_len h2
 have g3:=itoa_len h3
 have d1:=e_i_Decimal h1
 have d2:=e_i_Decimal h2
 have d3:=e_i_Decimal h3
 rw [g_i_ShowRoute]
 unfold G_i_ShowRoute
 have hops:=i_hops l hl hn
 have key:∀ w:List UInt8,w.length≤6→(cl1 (F_i_Decimal [ii to]) fun a7=>Ya a7 (st [32,99,111,115,116,32]) fun a8=>cl1 (F_i_Decimal [ii cost]) fun a9=>Ya a8 a9 fun a10=>Ya (st w) a10 fun a11=>Ye (ii kd) (ii 4) fun a12 =>
   jn (ar1 fun a13=>Ya a13 (st [32,98,121]) fun a14=>Yn (.l (l.map eInt)) fun a15=>iter (G_i_ShowRoute_l0 F_i_Decimal (.l (l.map eInt)) a15) rounds [a14,ii 0]) fun k0 =>
   ifT a12 (cl1 (F_i_Decimal [ii far]) fun a13=>Ya (st [32,102,97,114,32]) a13 fun a14=>Ya a11 a14 fun a15=>k0 [a15]) (k0 [a11])) =
   some [st (w++(Go.Lib.itoa to++([32,99,111,115,116,32]++(Go.Lib.itoa cost++((if kd=4 then [32,102,97,114,32]++Go.Lib.itoa far else [])++([32,98,121]++hopT l))))))]:=by
  intro w hw
  have hy:∀ k,Yn (.l (l.map eInt)) k=k (ii l.length):=fun k=>by rw [Yn_s];simp [Prim.ev]
  rw [d1,cl1_s,Ya_st (by simp only [List.length_append,List.length_cons,List.length_nil];omega),d2,cl1_s,Ya_st (by simp only [List.length_append,List.length_cons,List.length_nil];omega),Ya_st (by simp only [List.length_append,List.length_cons,List.length_nil];omega)]
  have he:∀ k,Ye (ii kd) (ii 4) k=k (bb (kd == 4)):=fun k=>by rw [Ye_s];simp [Prim.ev,T.val,binV]
  rw [he,jn_s]
  by_cases h4:kd=4
  ·rw [if_pos h4]
   subst h4
   rw [show ((4:Int) == 4)=true from rfl,ifT_p,if_pos rfl,d3,cl1_s,Ya_st (by simp only [List.length_append,List.length_cons,List.length_nil];omega),Ya_st (by simp only [List.length_append,List.length_cons,List.length_nil];omega),ar1_s,Ya_st (by simp only [List.length_append,List.length_cons,List.length_nil];omega),hy,
    hops _ (by simp only [List.length_append,List.length_cons,List.length_nil];omega)]
   simp only [List.append_assoc]
  ·rw [if_neg h4,show (kd == 4)=false by simp [h4],ifT_p,if_neg (by simp),ar1_s,Ya_st (by simp only [List.length_append,List.length_cons,List.length_nil];omega),hy,
    hops _ (by simp only [List.length_append,List.length_cons,List.length_nil];omega)]
   simp only [List.append_assoc,List.nil_append]
 rw [jn_s,ifT_p]
 unfold showT
 cases th with
 | true=>rw [if_pos rfl,if_pos rfl,ar1_s];exact key _ (by simp)
 | false=>rw [if_neg (by simp),if_neg (by simp),ar1_s];exact key _ (by simp)
end Go.Proofs.YtbhplkilhknciaaDoorC

/- A drawn route that is shown; texts that begin and end so. Conditions: none. -/
import Derived.Test.YtbhplkilhknciaaDoorXSRa
import Derived.Test.YtbhplkilhknciaaDoorXSSh
namespace Go.Proofs.YtbhplkilhknciaaDoorC
open Int (reduceLE reduceLT reduceEq reduceGT reduceGE reduceAdd reduceSub reduceMul reduceNeg)
set_option linter.unusedVariables false
set_option linter.unusedSimpArgs false
def ShP (o:Option (List T)):Prop:=∃ r:Route,o=some [bb r.thing,ii r.to,ii r.kind,ii r.cost,ii r.far,.l (r.hops.map eInt)]∧OkRoute r∧r.hops.length≤6
theorem e_s_DrawShowRoute {B:List Int} (hB:∀ x∈B,OkByte x) (hl:B.length≤1048576):ShP (F_s_DrawShowRoute [.l (B.map eByte)]):=by
 rw [g_s_DrawShowRoute]
 have hn:Prim.ev .len [.l (B.map eByte)]=some (ii B.length):=ev_lenM
 simp (disch:=omega) only [↓pq,↓pj,ps,pz,↓reduceIte,reduceLE,reduceLT,reduceEq,reduceGT,reduceGE,reduceAdd,reduceSub,reduceMul,reduceNeg,G_s_DrawShowRoute_l0,G_s_DrawShowRoute,hn]
 refine new_post hB hl (Post:=ShP) ?_ ?_ _
 ·intro q h k c1 c2
  obtain ⟨m,a,c,d,e1,e2,e3,e4,e5,e6,e7⟩:=step131 hB hl h c1
  exact ⟨d,by simp (disch:=omega) only [↓pq,↓pj,ps,pz,↓reduceIte,reduceLE,reduceLT,reduceEq,reduceGT,reduceGE,reduceAdd,reduceSub,reduceMul,reduceNeg,G_s_DrawShowRoute_l0,hn,c1,c2,e1,e2,e3,e4,e5,e6,e7]⟩
 ·intro q h k hk
  obtain ⟨rs,i,h',e,hx,hi,hi'⟩:=e_s_l11Routes hB hl h (i:=0) (by omega) (by omega)
  have nilOk:OkRoute ⟨true,3,4,0,4,[]⟩:=by
   exact ⟨show I64 3 from I64.mk (by omega) (by omega),show I64 4 from I64.mk (by omega) (by omega),show I64 0 from I64.mk (by omega) (by omega),show I64 4 from I64.mk (by omega) (by omega),by simp,by simp⟩
  by_cases c3:(rs.length:Int)=0
  ·by_cases c1:(k:Int) < B.length
   ·have c2:¬ (k:Int) < 4000:=by omega
    simp (disch:=omega) only [↓pq,↓pj,ps,pz,↓reduceIte,reduceLE,reduceLT,reduceEq,reduceGT,reduceGE,reduceAdd,reduceSub,reduceMul,reduceNeg,G_s_DrawShowRoute_l0,hn,c1,c2,e,c3]
    exact ⟨⟨true,3,4,0,4,[]⟩,rfl,nilOk,by simp⟩
   ·simp (disch:=omega) only [↓pq,↓pj,ps,pz,↓reduceIte,reduceLE,reduceLT,reduceEq,reduceGT,reduceGE,reduceAdd,reduceSub,reduceMul,reduceNeg,G_s_DrawShowRoute_l0,hn,c1,e,c3]
    exact ⟨⟨true,3,4,0,4,[]⟩,rfl,nilOk,by simp⟩
  ·have:=hx.2
   obtain ⟨d,i,h',e2,r2,hi,hi'⟩:=e_s_l01Below hB hl h' hi hi' rs.length (by omega) (by omega)
   have g1:=r2.1
   have g2:=r2.2
   have g3:=hx.1 _ (gt_mem g1 g2)
   by_cases c1:(k:Int) < B.length
   ·have c2:¬ (k:Int) < 4000:=by omega
    simp (disch:=omega) only [↓pq,↓pj,ps,pz,↓reduceIte,reduceLE,reduceLT,reduceEq,reduceGT,reduceGE,reduceAdd,reduceSub,reduceMul,reduceNeg,G_s_DrawShowRoute_l0,hn,c1,c2,e,c3,e2]
    exact ⟨gt rs d,rfl,g3⟩
   ·simp (disch:=omega) only [↓pq,↓pj,ps,pz,↓reduceIte,reduceLE,reduceLT,reduceEq,reduceGT,reduceGE,reduceAdd,reduceSub,reduceMul,reduceNeg,G_s_DrawShowRoute_l0,hn,c1,e,c3,e2]
    exact ⟨gt rs d,rfl,g3⟩
theorem ev_lensst (a:List UInt8):Prim.ev .lens [st a]=some (ii a.length):=by
 show some (ii ((⟨a.toArray⟩:ByteArray).size:Int))=_
 rw [show (⟨a.toArray⟩:ByteArray).size=a.length from List.size_toArray]
theorem ext_st (a:List UInt8) (i j:Nat):(⟨a.toArray⟩:ByteArray).extract i j=⟨((a.take j).drop i).toArray⟩:=by
 apply ByteArray.ext
 rw [ByteArray.data_extract]
 apply Array.toList_inj.1
 rw [Array.toList_extract]
 simp [List.extract]
 rw [List.drop_take]
theorem ev_subs_to {a b:List UInt8}:Prim.ev (.subs false true) [st (a++b),ii a.length]=some (st a):=by
 have h1:((a.length:Nat):Int)≤((⟨(a++b).toArray⟩:ByteArray).size:Int):=by
  show _≤(((a++b).toArray.size:Nat):Int)
  simp;omega
 show ((some ((0:Int),(a.length:Int))).bind fun x=>if 0≤x.1 then (if x.1≤x.2 then (if x.2≤((⟨(a++b).toArray⟩:ByteArray).size:Int) then some (T.c (.string ((⟨(a++b).toArray⟩:ByteArray).extract x.1.toNat x.2.toNat))) else none) else none) else none)=_
 rw [Option.bind_some]
 show (if (0:Int)≤0 then (if (0:Int)≤(a.length:Int) then (if (a.length:Int)≤((⟨(a++b).toArray⟩:ByteArray).size:Int) then some (T.c (.string ((⟨(a++b).toArray⟩:ByteArray).extract (0:Int).toNat (a.length:Int).toNat))) else none) else none) else none)=_
 rw [if_pos (by omega),if_pos (by omega),if_pos h1,ext_st]
 simp [st]
theorem ev_subs_from {a b:List UInt8} {n:Int} (hn:n=a.length):Prim.ev (.subs true false) [st (a++b),ii n]=some (st b):=by
 subst hn
 have h1:((⟨(a++b).toArray⟩:ByteArray).size:Int)=(a.length:Int)+b.length:=by
  show (((a++b).toArray.size:Nat):Int)=_
  simp
 show (if (0:Int)≤(a.length:Int) then (if (a.length:Int)≤((⟨(a++b).toArray⟩:ByteArray).size:Int) then (if ((⟨(a++b).toArray⟩:ByteArray).size:Int)≤((⟨(a++b).toArray⟩:ByteArray).size:Int) then some (T.c (.string ((⟨(a++b).toArray⟩:ByteArray).extract (a.length:Int).toNat ((⟨(a++b).toArray⟩:ByteArray).size:Int).toNat))) else none) else none) else none)=_
 rw [if_pos (by omega),if_pos (by omega),if_pos (by omega),ext_st,h1]
 have e2:((a.length:Int)+b.length).toNat=(a++b).length:=by simp;omega
 rw [e2,List.take_length]
 simp [st]
theorem ev_eqlst (a:List UInt8):Prim.ev (.bin .eql) [st a,st a]=some (bb true):=by simp [st,Prim.ev,T.val,binV]
theorem e_begins {a b:List UInt8}:F_begins [st a,st (a++b)]=some [bb true]:=by
 rw [g_begins]
 have h1:=ev_lensst a
 have h2:=ev_lensst (a++b)
 have h3:=ev_subs_to (a:=a) (b:=b)
 have h4:=ev_eqlst a
 have h5:((a.length:Int))≤((a++b).length:Int):=by simp;omega
 simp (disch:=omega) only [↓pq,↓pj,ps,pz,↓reduceIte,reduceLE,reduceLT,reduceEq,reduceGT,reduceGE,reduceAdd,reduceSub,reduceMul,reduceNeg,G_begins,h1,h2,h3,h4,h5]
end Go.Proofs.YtbhplkilhknciaaDoorC

/- What the functions of nodes and worlds' tests compute. Conditions: none. -/
import Derived.Test.YtlofiplkmgmnfaaXSB
namespace Go.Proofs.YtlofiplkmgmnfaaC
open Int (reduceLE reduceLT reduceEq reduceGT reduceGE reduceAdd reduceSub reduceMul reduceNeg)
set_option linter.unusedVariables false
set_option linter.unusedSimpArgs false
theorem asc_bound (f:Nat→Int):∀ (n:Nat),(∀ k,k+1 < n→f k < f (k+1))→∀ k,k < n→f 0+k≤f k
 | n,h,0,_=>by simp
 | n,h,k+1,hk=>by
  have:=asc_bound f n h k (by omega)
  have:=h k hk
  omega
theorem pairs_few {n:Int} {ls:List Link} (h:ascB (linkOk n) linkLt ls=true) {id:Int} {hd:List Int} (hp:pairsB (fun v a=>decide (0≤findP (joins id v a) ls)) hd=true):hd.length / 2≤18:=by
 have hk:=fun k hk=>allB_iff.1 hp k hk
 have hj:∀ k,k < hd.length / 2→1≤gt hd (2 * k:Int)∧gt hd (2 * k:Int)≤6∧0≤gt hd (2 * k+1:Int)∧gt hd (2 * k+1:Int)≤2:=by
  intro k hk'
  have h1:=hk k hk'
  simp only [Bool.and_eq_true,decide_eq_true_eq] at h1
  have h2:=findP_spec _ _ h1.1
  have h3:=findP_lt (joins id (gt hd (2 * k:Int)) (gt hd (2 * k+1:Int))) ls
  have h4:=allB_iff.1 h (findP (joins id (gt hd (2 * k:Int)) (gt hd (2 * k+1:Int))) ls).toNat (by omega)
  rw [show (((findP (joins id (gt hd (2 * k:Int)) (gt hd (2 * k+1:Int))) ls).toNat:Nat):Int)=findP (joins id (gt hd (2 * k:Int)) (gt hd (2 * k+1:Int))) ls by omega] at h4
  simp only [joins,Bool.and_eq_true,Bool.or_eq_true,beq_iff_eq] at h2
  simp only [Bool.and_eq_true,linkOk,inB_iff,decide_eq_true_eq] at h4
  omega
 rcases Nat.eq_zero_or_pos (hd.length / 2) with h0 | h0
 ·omega
 have:=asc_bound (fun k=>3 * gt hd (2 * k:Int)+gt hd (2 * k+1:Int)) (hd.length / 2) (fun k hk'=>?_) (hd.length / 2 - 1) (by omega)
 ·have h1:=hj 0 (by omega)
  have h2:=hj (hd.length / 2 - 1) (by omega)
  omega
 ·have h1:=hk (k+1) hk'
  have h2:=hj k (by omega)
  have h3:=hj (k+1) hk'
  simp only [Bool.and_eq_true,Bool.or_eq_true,decide_eq_true_eq,Bool.not_eq_true',decide_eq_false_iff_not] at h1
  simp only [cast_add,cast_1,show (2:Int) * ((k:Int)+1)=2 * k+2 by omega] at h1 h3 ⊢
  simp only [show (2:Int) * k+2 - 2=2 * k by omega,show (2:Int) * k+2 - 1=2 * k+1 by omega] at h1
  omega
def selfOk (x:Self):Bool:=netOk x.net && (inB x.id 1 x.net.n && (inB x.boot 0 90 && (decide (x.heard.length % 2=0) && pairsB (fun v a=>decide (0≤findP (joins x.id v a) x.net.links)) x.heard && storeOk x.store)))
theorem e_i_SelfOk (id boot n:Int) (ls:List Link) (ts:List Thing) (hd:List Int) (st:List Rcd) (h1:ls.length≤1048576) (h2:ts.length≤1048576) (h3:hd.length≤1048576) (h4:st.length≤1048576) (h5:NearL st) :
  F_i_SelfOk [ii id,ii boot,ii n,.l (ls.map eLink),.l (ts.map eThing),.l (hd.map eInt),.l (st.map eRcd)]=some [bb (selfOk ⟨id,boot,⟨n,ls,ts⟩,hd,st⟩)]:=by
 rw [g_i_SelfOk];simp (disch:=omega) only [↓pq,↓pj,ps,pz,↓reduceIte,reduceLE,reduceLT,reduceEq,reduceGT,reduceGE,reduceAdd,reduceSub,reduceMul,reduceNeg,G_i_SelfOk,e_i_NetOk,e_i_in,e_i_heardOk,e_i_StoreOk _ h4 h5,ite_bb];unfold selfOk
 grind
theorem e_s_SelfOk (id boot n:Int) (ls:List Link) (ts:List Thing) (hd:List Int) (st:List Rcd) (h1:ls.length≤1048576) (h2:ts.length≤1048576) (h3:hd.length≤1048576) (h4:st.length≤1048576) (h5:NearL st) :
  F_s_SelfOk [ii id,ii boot,ii n,.l (ls.map eLink),.l (ts.map eThing),.l (hd.map eInt),.l (st.map eRcd)]=some [bb (selfOk ⟨id,boot,⟨n,ls,ts⟩,hd,st⟩)]:=by
 rw [g_s_SelfOk];simp (disch:=omega) only [↓pq,↓pj,ps,pz,↓reduceIte,reduceLE,reduceLT,reduceEq,reduceGT,reduceGE,reduceAdd,reduceSub,reduceMul,reduceNeg,G_s_SelfOk,e_s_NetOk,e_s_l01In,e_s_l08Heard,e_s_StoreOk _ h4 h5,ite_bb]
 have key:netOk ⟨n,ls,ts⟩=true→(decide (hd.length≤60) && pairsB (fun v a=>!decide (costTo ls id v a=0)) hd)=pairsB (fun v a=>decide (0≤findP (joins id v a) ls)) hd:=by
  intro hn
  have hl:ascB (linkOk n) linkLt ls=true:=by simp only [netOk,Bool.and_eq_true] at hn;exact hn.1.2
  have he:(fun v a=>!decide (costTo ls id v a=0))=fun v a=>decide (0≤findP (joins id v a) ls):=by
   funext v a
   have:=costTo_zero hl id v a
   by_cases hc:costTo ls id v a=0 <;> simp [hc] <;> omega
  rw [he]
  cases hp:pairsB (fun v a=>decide (0≤findP (joins id v a) ls)) hd with
  | false=>simp
  | true=>have:=pairs_few hl hp;simp;omega
 unfold selfOk
 grind
end Go.Proofs.YtlofiplkmgmnfaaC

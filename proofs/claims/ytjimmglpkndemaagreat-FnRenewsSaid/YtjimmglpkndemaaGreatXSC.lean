/- What the functions of nodes and worlds' tests compute. Conditions: none. -/
import Derived.Test.YtjimmglpkndemaaGreatXSB
namespace Go.Proofs.YtjimmglpkndemaaGreatC
open Int renaming reduceLE → Q0_, reduceLT → Q1_, reduceEq → Q2_, reduceGT → Q3_, reduceGE → Q4_, reduceAdd → Q5_, reduceSub → Q6_, reduceMul → Q7_, reduceNeg → Q8_
set_option linter.unusedVariables false
set_option linter.unusedSimpArgs false
theorem arl_ (f:Nat→Int):∀ (n:Nat),(∀ k,k+1 < n→f k < f (k+1))→∀ k,k < n→f 0+k≤f k
 | n,h,0,_=>by simp
 | n,h,k+1,hk=>by
  have:=arl_ f n h k (by omega)
  have:=h k hk
  omega
theorem arr_ {n:Int} {ls:List Link} (h:ascB (yo_ n) zI_ ls=true) {id:Int} {hd:List Int} (hp:uT_ (fun v a=>decide (0≤zn_ (zt_ id v a) ls)) hd=true):hd.length / 2≤18:=by
 have hk:=fun k hk=>allB_iff.1 hp k hk
 have hj:∀ k,k < hd.length / 2→1≤gt hd (2 * k:Int)∧gt hd (2 * k:Int)≤6∧0≤gt hd (2 * k+1:Int)∧gt hd (2 * k+1:Int)≤2:=by
  intro k hk'
  have h1:=hk k hk'
  simp only [bA_,decide_eq_true_eq] at h1
  have h2:=yE_ _ _ h1.1
  have h3:=y9_ (zt_ id (gt hd (2 * k:Int)) (gt hd (2 * k+1:Int))) ls
  have h4:=allB_iff.1 h (zn_ (zt_ id (gt hd (2 * k:Int)) (gt hd (2 * k+1:Int))) ls).toNat (by omega)
  rw [show (((zn_ (zt_ id (gt hd (2 * k:Int)) (gt hd (2 * k+1:Int))) ls).toNat:Nat):Int)=zn_ (zt_ id (gt hd (2 * k:Int)) (gt hd (2 * k+1:Int))) ls by omega] at h4
  simp only [zt_,bA_,Bool.or_eq_true,beq_iff_eq] at h2
  simp only [bA_,yo_,inB_iff,decide_eq_true_eq] at h4
  omega
 rcases Nat.eq_zero_or_pos (hd.length / 2) with h0 | h0
 ·omega
 have:=arl_ (fun k=>3 * gt hd (2 * k:Int)+gt hd (2 * k+1:Int)) (hd.length / 2) (fun k hk'=>?_) (hd.length / 2 - 1) (by omega)
 ·have h1:=hj 0 (by omega)
  have h2:=hj (hd.length / 2 - 1) (by omega)
  omega
 ·have h1:=hk (k+1) hk'
  have h2:=hj k (by omega)
  have h3:=hj (k+1) hk'
  simp only [bA_,Bool.or_eq_true,decide_eq_true_eq,Bool.not_eq_true',decide_eq_false_iff_not] at h1
  simp only [amt_,awq_,show (2:Int) * ((k:Int)+1)=2 * k+2 by omega] at h1 h3 ⊢
  simp only [show (2:Int) * k+2 - 2=2 * k by omega,show (2:Int) * k+2 - 1=2 * k+1 by omega] at h1
  omega
def xu_ (x:Self):Bool:=wn_ x.net && (inB x.id 1 x.net.n && (inB x.boot 0 90 && (decide (x.heard.length % 2=0) && uT_ (fun v a=>decide (0≤zn_ (zt_ x.id v a) x.net.links)) x.heard && ze_ x.store)))
theorem aa3_ (id boot n:Int) (ls:List Link) (ts:List Thing) (hd:List Int) (st:List Rcd) (h1:ls.length≤1048576) (h2:ts.length≤1048576) (h3:hd.length≤1048576) (h4:st.length≤1048576) (h5:NearL st) :
  wg_ [ii id,ii boot,ii n,.l (ls.map zr_),.l (ts.map zo_),.l (hd.map eInt),.l (st.map eRcd)]=some [bb (xu_ ⟨id,boot,⟨n,ls,ts⟩,hd,st⟩)]:=by
 rw [aEo_];simp (disch:=omega) only [↓pq,↓pj,ps,pz,↓reduceIte,Q0_,Q1_,Q2_,Q3_,Q4_,Q5_,Q6_,Q7_,Q8_,agh_,aHe_,aco_,axl_,alo_ _ h4 h5,yx_];unfold xu_
 grind
theorem ani_ (id boot n:Int) (ls:List Link) (ts:List Thing) (hd:List Int) (st:List Rcd) (h1:ls.length≤1048576) (h2:ts.length≤1048576) (h3:hd.length≤1048576) (h4:st.length≤1048576) (h5:NearL st) :
  vg_ [ii id,ii boot,ii n,.l (ls.map zr_),.l (ts.map zo_),.l (hd.map eInt),.l (st.map eRcd)]=some [bb (xu_ ⟨id,boot,⟨n,ls,ts⟩,hd,st⟩)]:=by
 rw [aE0_];simp (disch:=omega) only [↓pq,↓pj,ps,pz,↓reduceIte,Q0_,Q1_,Q2_,Q3_,Q4_,Q5_,Q6_,Q7_,Q8_,aha_,aif_,uB_,auz_,kV_ _ h4 h5,yx_]
 have key:wn_ ⟨n,ls,ts⟩=true→(decide (hd.length≤60) && uT_ (fun v a=>!decide (yM_ ls id v a=0)) hd)=uT_ (fun v a=>decide (0≤zn_ (zt_ id v a) ls)) hd:=by
  intro hn
  have hl:ascB (yo_ n) zI_ ls=true:=by simp only [wn_,bA_] at hn;exact hn.1.2
  have he:(fun v a=>!decide (yM_ ls id v a=0))=fun v a=>decide (0≤zn_ (zt_ id v a) ls):=by
   funext v a
   have:=kM_ hl id v a
   by_cases hc:yM_ ls id v a=0 <;> simp [hc] <;> omega
  rw [he]
  cases hp:uT_ (fun v a=>decide (0≤zn_ (zt_ id v a) ls)) hd with
  | false=>simp
  | true=>have:=arr_ hl hp;simp;omega
 unfold xu_
 grind
end Go.Proofs.YtjimmglpkndemaaGreatC

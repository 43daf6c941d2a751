/- FnExactShowRoute: what the plain programs say. Conditions: none. -/
import Derived.Test.YtbhplkilhknciaaDoorXMS
import Derived.Test.YtbhplkilhknciaaDoorKe
import Derived.Test.YtbhplkilhknciaaDoorXSSh
namespace Go.Proofs.YtbhplkilhknciaaDoorC
set_option linter.unusedVariables false
set_option linter.unusedSimpArgs false
def ys_FnExactShowRoute:List Ty:=[.b,.i .i64,.i .i64,.i .i64,.i .i64,.sl [.i .i64]]
theorem true_FnExactShowRoute (ts:List T) (h0:WTs ys_FnExactShowRoute ts):F_FnExactShowRoute ts=some [.c (.bool true)]:=by
 have hw:=h0
 have lenI:∀ m:List Int,blks blkInt m=m.length:=by
  intro m;induction m with
  | nil=>rfl
  | cons a m ih=>simp only [blks,ih,blkInt,List.length_cons];omega
 obtain ⟨_,_,rfl,⟨th,rfl⟩,_,_,rfl,⟨to,rfl,h1⟩,_,_,rfl,⟨kd,rfl,hk⟩,_,_,rfl,⟨cost,rfl,h2⟩,_,_,rfl,⟨far,rfl,h3⟩,t5,_,rfl,q5,rfl⟩:=WTsU_of h0
 unfold WT at q5
 obtain ⟨z,rfl,m1,g1⟩:=q5
 obtain ⟨l,rfl,hl⟩:=dec_list dInt g1
 rw [List.length_map] at m1
 obtain ⟨n,e1,b1,c1⟩:=so_szRoute _ 1048576 hw (by omega) (by omega)
 simp only [List.cons_append,List.nil_append] at e1
 have kS:bulkR [bb th,ii to,ii kd,ii cost,ii far,.l (l.map eInt)]=l.length:=by
  simp (implicitDefEqProofs:=false) only [bulkR_cons,bulkR_nil,bulk_l,bulk_i,bulk_b,bulk_s,Nat.add_zero,Nat.zero_add]
  rw [blks_eq bInt,lenI]
 rw [g_FnExactShowRoute]
 unfold G_FnExactShowRoute
 rw [e1,cl1_s]
 have hl2:∀ k,Yl (.c (.int .i64 n)) (ii 0) k=k (bb (decide (n < 0))):=fun k=>by rw [Yl_s];rfl
 rw [hl2,ifT_p]
 by_cases hn:n < 0
 ·rw [if_pos (by simpa using hn),Yz_s];rfl
 ·rw [if_neg (by simpa using hn)]
  have c2:=c1 (by omega)
  rw [kS] at c2
  have hlen:l.length≤1048576:=by omega
  have e2:=so_toRoute _ hw (by rw [kS];omega)
  have e3:=so_eqRoute _ hw (by rw [kS];omega)
  simp only [List.cons_append,List.nil_append] at e3
  rw [e2,cl6_s,e_s_ShowRoute h1 h2 h3 hl hlen,cl1_s,cl6_s,e_i_ShowRoute h1 h2 h3 hl hlen,cl1_s,Yu_s,ev_neqst,Option.bind_some,ifT_p,if_neg (by simp),cl6_s,e3,cl1_s]
  rfl
end Go.Proofs.YtbhplkilhknciaaDoorC

/- The routes of a node. Conditions: none. -/
import Derived.Test.YtiebbbmibbkpcaaGreatXSP
namespace Go.Proofs.YtiebbbmibbkpcaaGreatC
open Int (reduceLE reduceLT reduceEq reduceGT reduceGE reduceAdd reduceSub reduceMul reduceNeg)
set_option linter.unusedVariables false
set_option linter.unusedSimpArgs false
def q6_ (x:Node):List Route:=if uQ_ x=true then anb_ x.self.store (z1_ x.self.net.links x.self.id) (vO_ x.self.net.links x.self.id) x.self.id else []
theorem amq_ {x:Node} (h:uQ_ x=true):vV_ x.self.net=true∧zk_ x.self.store=true:=by
 unfold uQ_ xd_ at h
 simp only [Bool.and_eq_true] at h
 exact ⟨h.1.1,h.1.2.2.2.2⟩
theorem aHt_ (id boot n:Int) (ls:List Link) (ts:List Thing) (hd:List Int) (st:List Rcd) (es:List Ear) (h1:ls.length≤1048576) (h2:ts.length≤1048576) (h3:hd.length≤1048576) (h4:st.length≤1048576) (h5:NearL st) (h6:es.length≤1048576) :
  ain_ [ii id,ii boot,ii n,.l (ls.map zn_),.l (ts.map zl_),.l (hd.map eInt),.l (st.map eRcd),.l (es.map eEar)]=some [.l ((q6_ ⟨⟨id,boot,⟨n,ls,ts⟩,hd,st⟩,es⟩).map zJ_)]:=by
 rw [aFq_];simp (disch:=omega) only [↓pq,ps,pz,↓reduceIte,reduceLE,reduceLT,reduceEq,reduceGT,reduceGE,reduceAdd,reduceSub,reduceMul,reduceNeg,aiv_,aEp_ _ _ _ _ _ _ _ _ h1 h2 h3 h4 h5 h6]
 unfold q6_
 cases hk:uQ_ ⟨⟨id,boot,⟨n,ls,ts⟩,hd,st⟩,es⟩ with
 | false=>simp (disch:=omega) only [↓pq,ps,pz,↓reduceIte,reduceLE,reduceLT,reduceEq,reduceGT,reduceGE,reduceAdd,reduceSub,reduceMul,reduceNeg,Bool.false_eq_true];rfl
 | true =>
  obtain ⟨hn,hs⟩:=amq_ hk
  obtain ⟨hl,hl2⟩:=amc_ hn
  have hal:=wN_ ls id
  simp (disch:=omega) only [↓pq,ps,pz,↓reduceIte,reduceLE,reduceLT,reduceEq,reduceGT,reduceGE,reduceAdd,reduceSub,reduceMul,reduceNeg,jo_ _ _ _ _ _ hl hl2,aip_ _ _ _ _ _ hl hl2,awm_ st (z1_ ls id) (vO_ ls id) id h4 h5 hs (by omega)]
theorem aF7_ (id boot n:Int) (ls:List Link) (ts:List Thing) (hd:List Int) (st:List Rcd) (es:List Ear) (h1:ls.length≤1048576) (h2:ts.length≤1048576) (h3:hd.length≤1048576) (h4:st.length≤1048576) (h5:NearL st) (h6:es.length≤1048576) :
  agu_ [ii id,ii boot,ii n,.l (ls.map zn_),.l (ts.map zl_),.l (hd.map eInt),.l (st.map eRcd),.l (es.map eEar)]=some [.l ((q6_ ⟨⟨id,boot,⟨n,ls,ts⟩,hd,st⟩,es⟩).map zJ_)]:=by
 rw [aFh_];simp (disch:=omega) only [↓pq,ps,pz,↓reduceIte,reduceLE,reduceLT,reduceEq,reduceGT,reduceGE,reduceAdd,reduceSub,reduceMul,reduceNeg,ahd_,aEw_ _ _ _ _ _ _ _ _ h1 h2 h3 h4 h5 h6]
 unfold q6_
 cases hk:uQ_ ⟨⟨id,boot,⟨n,ls,ts⟩,hd,st⟩,es⟩ with
 | false=>simp (disch:=omega) only [↓pq,ps,pz,↓reduceIte,reduceLE,reduceLT,reduceEq,reduceGT,reduceGE,reduceAdd,reduceSub,reduceMul,reduceNeg,Bool.false_eq_true];rfl
 | true =>
  obtain ⟨hn,hs⟩:=amq_ hk
  obtain ⟨hl,hl2⟩:=amc_ hn
  have hal:=wN_ ls id
  simp (disch:=omega) only [↓pq,ps,pz,↓reduceIte,reduceLE,reduceLT,reduceEq,reduceGT,reduceGE,reduceAdd,reduceSub,reduceMul,reduceNeg,aes_ _ _ _ _ _ hl hl2,ahp_ _ _ _ _ _ hl hl2,aw1_ st (z1_ ls id) (vO_ ls id) id h4 h5 hs (by omega)]
end Go.Proofs.YtiebbbmibbkpcaaGreatC

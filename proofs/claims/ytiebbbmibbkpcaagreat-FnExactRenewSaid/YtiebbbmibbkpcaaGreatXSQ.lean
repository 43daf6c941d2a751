/- The routes of a node. Conditions: none. -/
import Derived.Test.YtiebbbmibbkpcaaGreatXSP
namespace Go.Proofs.YtiebbbmibbkpcaaGreatC
open Int (reduceLE reduceLT reduceEq reduceGT reduceGE reduceAdd reduceSub reduceMul reduceNeg)
set_option linter.unusedVariables false
set_option linter.unusedSimpArgs false
def qX_ (x:Node):List Route:=if uQ_ x=true then anq_ x.self.store (z3_ x.self.net.links x.self.id) (vE_ x.self.net.links x.self.id) x.self.id else []
theorem ams_ {x:Node} (h:uQ_ x=true):uF_ x.self.net=true∧zk_ x.self.store=true:=by
 unfold uQ_ xv_ at h
 simp only [Bool.and_eq_true] at h
 exact ⟨h.1.1,h.1.2.2.2.2⟩
theorem aG4_ (id boot n:Int) (ls:List Link) (ts:List Thing) (hd:List Int) (st:List Rcd) (es:List Ear) (h1:ls.length≤1048576) (h2:ts.length≤1048576) (h3:hd.length≤1048576) (h4:st.length≤1048576) (h5:NearL st) (h6:es.length≤1048576) :
  aif_ [ii id,ii boot,ii n,.l (ls.map zt_),.l (ts.map zr_),.l (hd.map eInt),.l (st.map eRcd),.l (es.map eEar)]=some [.l ((qX_ ⟨⟨id,boot,⟨n,ls,ts⟩,hd,st⟩,es⟩).map zI_)]:=by
 rw [aE4_];simp (disch:=omega) only [↓pq,ps,pz,↓reduceIte,reduceLE,reduceLT,reduceEq,reduceGT,reduceGE,reduceAdd,reduceSub,reduceMul,reduceNeg,aig_,aDd_ _ _ _ _ _ _ _ _ h1 h2 h3 h4 h5 h6]
 unfold qX_
 cases hk:uQ_ ⟨⟨id,boot,⟨n,ls,ts⟩,hd,st⟩,es⟩ with
 | false=>simp (disch:=omega) only [↓pq,ps,pz,↓reduceIte,reduceLE,reduceLT,reduceEq,reduceGT,reduceGE,reduceAdd,reduceSub,reduceMul,reduceNeg,Bool.false_eq_true];rfl
 | true =>
  obtain ⟨hn,hs⟩:=ams_ hk
  obtain ⟨hl,hl2⟩:=amz_ hn
  have hal:=wK_ ls id
  simp (disch:=omega) only [↓pq,ps,pz,↓reduceIte,reduceLE,reduceLT,reduceEq,reduceGT,reduceGE,reduceAdd,reduceSub,reduceMul,reduceNeg,jm_ _ _ _ _ _ hl hl2,agq_ _ _ _ _ _ hl hl2,au2_ st (z3_ ls id) (vE_ ls id) id h4 h5 hs (by omega)]
theorem aDm_ (id boot n:Int) (ls:List Link) (ts:List Thing) (hd:List Int) (st:List Rcd) (es:List Ear) (h1:ls.length≤1048576) (h2:ts.length≤1048576) (h3:hd.length≤1048576) (h4:st.length≤1048576) (h5:NearL st) (h6:es.length≤1048576) :
  ahk_ [ii id,ii boot,ii n,.l (ls.map zt_),.l (ts.map zr_),.l (hd.map eInt),.l (st.map eRcd),.l (es.map eEar)]=some [.l ((qX_ ⟨⟨id,boot,⟨n,ls,ts⟩,hd,st⟩,es⟩).map zI_)]:=by
 rw [aEu_];simp (disch:=omega) only [↓pq,ps,pz,↓reduceIte,reduceLE,reduceLT,reduceEq,reduceGT,reduceGE,reduceAdd,reduceSub,reduceMul,reduceNeg,agh_,aG0_ _ _ _ _ _ _ _ _ h1 h2 h3 h4 h5 h6]
 unfold qX_
 cases hk:uQ_ ⟨⟨id,boot,⟨n,ls,ts⟩,hd,st⟩,es⟩ with
 | false=>simp (disch:=omega) only [↓pq,ps,pz,↓reduceIte,reduceLE,reduceLT,reduceEq,reduceGT,reduceGE,reduceAdd,reduceSub,reduceMul,reduceNeg,Bool.false_eq_true];rfl
 | true =>
  obtain ⟨hn,hs⟩:=ams_ hk
  obtain ⟨hl,hl2⟩:=amz_ hn
  have hal:=wK_ ls id
  simp (disch:=omega) only [↓pq,ps,pz,↓reduceIte,reduceLE,reduceLT,reduceEq,reduceGT,reduceGE,reduceAdd,reduceSub,reduceMul,reduceNeg,ae4_ _ _ _ _ _ hl hl2,agf_ _ _ _ _ _ hl hl2,aug_ st (z3_ ls id) (vE_ ls id) id h4 h5 hs (by omega)]
end Go.Proofs.YtiebbbmibbkpcaaGreatC

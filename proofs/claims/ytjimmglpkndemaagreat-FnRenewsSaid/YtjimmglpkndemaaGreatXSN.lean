/- Routes to things, by both programs. Conditions: none. -/
import Derived.Test.YtjimmglpkndemaaGreatXSM
namespace Go.Proofs.YtjimmglpkndemaaGreatC
set_option linter.unusedVariables false
set_option linter.unusedSimpArgs false
theorem kW_ (l:List Way) (v:Int):wayO l v=l.find? fun w=>w.to == v:=by
 cases h:l.find? (fun w=>w.to == v) with
 | none =>
  cases h':wayO l v with
  | none=>rfl
  | some w =>
   have:=wa_ h'
   have h2:=List.find?_eq_none.1 h w this.1
   simp [this.2] at h2
 | some w =>
  unfold wayO wayP
  have h0:0≤zn_ (fun w:Way=>w.to == v) l:=by
   rcases Int.lt_or_le (zn_ (fun w:Way=>w.to == v) l) 0 with h1 | h1
   ·have:=(wX_ _ _).1 h1 w (List.mem_of_find?_eq_some h)
    have h2:=List.find?_some h
    rw [this] at h2;cases h2
   ·exact h1
  rw [if_neg (by omega)]
  unfold zn_ at h0 ⊢
  cases h':l.findIdx? (fun w:Way=>w.to == v) with
  | none=>rw [h'] at h0;exact absurd h0 (by decide)
  | some i =>
   obtain ⟨h1,h2,h3⟩:=List.findIdx?_eq_some_iff_getElem.1 h'
   show some (gt l (i:Int))=some w
   rw [zm_ h1]
   obtain ⟨e,as,bs,e1,e2⟩:=List.find?_eq_some_iff_append.1 h
   subst e1
   congr 1
   rcases Nat.lt_trichotomy i as.length with h4 | h4 | h4
   ·have h5:=e2 as[i] (List.getElem_mem h4)
    rw [List.getElem_append_left h4] at h2
    rw [h2] at h5;cases h5
   ·subst h4;simp
   ·have h5:=h3 as.length h4
    simp at h5 e
    exact absurd e h5
theorem alp_ (a b:List Way) (v:Int):wayO (a++b) v=(wayO a v).or (wayO b v):=by
 rw [kW_,kW_,kW_,List.find?_append]
def WaysG (W:List Way):Prop:=W.length≤1000∧∀ w∈W,zs_ w.hops∧0≤w.cost∧w.cost≤100000
theorem WaysG.app {a b:List Way} (ha:a.length≤100) (hb:b.length≤100) (h:WaysG a) (h':WaysG b):WaysG (a++b) :=
 ⟨by simp;omega,fun w hw=>(List.mem_append.1 hw).elim (h.2 w) (h'.2 w)⟩
end Go.Proofs.YtjimmglpkndemaaGreatC

/- The records that there would be, by both programs. Conditions: none. -/
import Derived.Test.YtiebbbmibbkpcaaXSS
namespace Go.Proofs.YtiebbbmibbkpcaaC
set_option linter.unusedVariables false
set_option linter.unusedSimpArgs false
theorem beyondR_len (s:List Rcd) (A:List Int) (fr area:Int):(beyondR s A fr area).length≤6:=toldB_len _ _ _ _
theorem wayO_of {W:List Way} {k:Int} {w:Way} (h:wayO W k=some w):w∈W:=by
 rw [wayO_find] at h
 exact List.mem_of_find?_eq_some h
theorem beyondR_rec {s:List Rcd} {A:List Int} {fr area:Int} {r:Rcd} (h:r∈beyondR s A fr area):r.area=area∧r.kind=2∧r.owner=fr∧(1≤r.key∧r.key≤6)∧r.near=[]∧r.seq=0∧(0≤r.cost∧r.cost≤60000)∧r.far=false∧r.key≠fr:=by
 unfold beyondR at h
 obtain ⟨h1,h2⟩:=toldB_mem.1 h
 obtain ⟨_,h3,h4,h5,h6,h7,h8,h9,w,hw,rfl⟩:=tellR_key h2
 refine ⟨h3,h4,h5,h1,h6,h7,?_,h8,?_⟩
 ·have hm:=wayO_of hw
  unfold tellW at hm
  rcases List.mem_append.1 hm with hm | hm
  ·have:=(within_ok hm).2.2
   show 0≤w.cost∧w.cost≤60000
   omega
  ·split at hm
   ·cases hm
   ·have:=(beyond_ok hm).2.2.1
    show 0≤w.cost∧w.cost≤60000
    omega
 ·unfold tellC at h9
  simp only [Bool.and_eq_true,decide_eq_true_eq] at h9
  exact h9.2
end Go.Proofs.YtiebbbmibbkpcaaC

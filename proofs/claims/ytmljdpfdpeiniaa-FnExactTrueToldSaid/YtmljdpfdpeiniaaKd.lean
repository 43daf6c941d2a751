/- The walk by reflection: a part of its laws, for any function. Conditions: none. -/
import Derived.Test.YtmljdpfdpeiniaaKc
import Derived.ChangeSame
import Derived.JoinedOf
import Derived.JoinedAt
import Derived.RowKit3
import Derived.Carry
/- A seat's functions, one at a time: each out of those that it calls. Conditions: none. -/
namespace Go.Proofs.YtmljdpfdpeiniaaC
set_option linter.unusedVariables false

def sgOf : List (Nat × Sig) → Nat → Option Sig
  | [], _ => none
  | e :: l, g => bif Nat.beq e.1 g then some e.2 else sgOf l g

theorem sgOf_mem : ∀ {l : List (Nat × Sig)} {g : Nat} {sg : Sig}, sgOf l g = some sg → (g, sg) ∈ l
  | [], _, _, h => by cases h
  | e :: l, g, sg, h => by
    unfold sgOf at h
    cases hb : Nat.beq e.1 g with
    | true =>
      rw [hb] at h
      simp only [cond_true, Option.some.injEq] at h
      have := Nat.eq_of_beq_eq_true hb
      subst this; subst h
      exact .head _
    | false =>
      rw [hb] at h
      exact .tail _ (sgOf_mem h)

/-- The same, but for what is called. -/
def Cx.on (cx : Cx) (l : List (Nat × Sig)) : Cx := { cx with sg := sgOf l }

/-- A function is there, and does as a plain function says. -/
def Fok (P : Program) (sg : Sig) (g : Nat) (F : Sem1) : Prop := FnIn P g ∧ CallOk P sg g F

/-- What holds of a whole seat. -/
structure Seat (P : Program) (cx : Cx) : Prop where
  tys : TyAll P cx
  into : ∀ g fn, cx.fn g = some fn → P.funcs[g]? = some fn ∧ FnIn P g
  mx : P.follows .mixedOrders = true

def hintOf : List ((Nat × Nat × Nat) × Js) → Nat → Nat → Nat → Option Js
  | [], _, _, _ => none
  | e :: l, f, k, j => bif Nat.beq e.1.1 f && (Nat.beq e.1.2.1 k && Nat.beq e.1.2.2 j) then some e.2 else hintOf l f k j

def fzOf : List (Nat × Nat × Nat) → Nat → Nat → Nat → Bool
  | [], _, _, _ => false
  | e :: l, f, k, j => (Nat.beq e.1 f && (Nat.beq e.2.1 k && Nat.beq e.2.2 j)) || fzOf l f k j

def memN : List Nat → Nat → Bool
  | [], _ => false
  | e :: l, f => Nat.beq e f || memN l f

theorem Fok.mk {P : Program} {cx : Cx} (Z : Seat P cx) {R n g : Nat} {fn : Func} {sg : Sig} {pl : PL} {l : List (Nat × Sig)} {S : Nat → Sem1} (hin : FnIn P g) (hf : P.funcs[g]? = some fn)
    (hl : ∀ x ∈ l, Fok P x.2 x.1 (S x.1)) (h : compFn (cx.on l) n g fn sg = some pl) : Fok P sg g fun ts => pl.den S R [] ts :=
  ⟨hin, compFn_ok (cx := cx.on l) ⟨⟨Z.tys.ty⟩, fun g' sg' h' => hl _ (sgOf_mem h'), Z.into⟩ Z.mx hf h⟩

theorem FnIn.mk {P : Program} {g : Nat} {fn : Func} (h : P.funcs[g]? = some fn) (h1 : (fn.name == "runtime.NumGoroutine") = false) (h2 : fn.body.isNone = false) : FnIn P g := ⟨fn, h, h1, h2⟩

/-- All types of a list, looked at one by one. -/
def tysB (P : Program) (l : List (Nat × TI)) : Bool := l.all fun x => tyB P x.1 x.2

def tiOf : List (Nat × TI) → Nat → Option TI
  | [], _ => none
  | e :: l, g => bif Nat.beq e.1 g then some e.2 else tiOf l g

theorem tiOf_mem : ∀ {l : List (Nat × TI)} {g : Nat} {sg : TI}, tiOf l g = some sg → (g, sg) ∈ l
  | [], _, _, h => by cases h
  | e :: l, g, sg, h => by
    unfold tiOf at h
    cases hb : Nat.beq e.1 g with
    | true =>
      rw [hb] at h
      simp only [cond_true, Option.some.injEq] at h
      have := Nat.eq_of_beq_eq_true hb
      subst this; subst h
      exact .head _
    | false =>
      rw [hb] at h
      exact .tail _ (tiOf_mem h)

theorem tys_ok {P : Program} {cx : Cx} {l : List (Nat × TI)} (h : tysB P l = true) (he : cx.ty = tiOf l) : TyAll P cx := by
  refine ⟨fun t ti ht => ?_⟩
  rw [he] at ht
  exact tyB_ok (List.all_eq_true.1 h _ (tiOf_mem ht))

def fnOf : List (Nat × Func) → Nat → Option Func
  | [], _ => none
  | e :: l, g => bif Nat.beq e.1 g then some e.2 else fnOf l g

theorem into_of {P : Program} {cx : Cx} {l : List (Nat × Func)} (h : ∀ x ∈ l, P.funcs[x.1]? = some x.2 ∧ FnIn P x.1) (he : cx.fn = fnOf l) : ∀ g fn, cx.fn g = some fn → P.funcs[g]? = some fn ∧ FnIn P g := by
  intro g fn hg
  rw [he] at hg
  clear he
  induction l with
  | nil => cases hg
  | cons e l ih =>
    unfold fnOf at hg
    cases hb : Nat.beq e.1 g with
    | true =>
      rw [hb] at hg
      simp only [cond_true, Option.some.injEq] at hg
      have := Nat.eq_of_beq_eq_true hb
      subst this; subst hg
      exact h _ (.head _)
    | false =>
      rw [hb] at hg
      exact ih (fun x hx => h x (.tail _ hx)) hg

end Go.Proofs.YtmljdpfdpeiniaaC

/- What came in, as trees: well-formed by their types; the row of a law. Conditions: none. -/
namespace Go.Proofs.YtmljdpfdpeiniaaC
set_option linter.unusedVariables false
open Go.ChangeShapes Go.WideShapes Go.ChangeAt Go.RowKit

section
variable {P : Program}

def tyFs (P : Program) (r : TypeId → Option (List Ty)) : Nat → List Field → Option (List Ty)
  | _, [] => some []
  | o, f :: fs => bif Nat.beq f.offset o then (r f.type).bind fun a => bif Nat.beq (P.cellsOf f.type) a.length then (tyFs P r (o + a.length) fs).bind fun b => some (a ++ b) else none else none

/-- The kinds of a type's cells. -/
def tyOf (P : Program) : Nat → TypeId → Option (List Ty)
  | 0, _ => none
  | n + 1, t =>
    match P.underlying t with
    | some (.int k) => some [.i k]
    | some .bool => some [.b]
    | some .string => some [.s]
    | some (.slice e) => (tyOf P n e).bind fun fs => bif fs.isEmpty then none else some [.sl fs]
    | some (.struct fs) => (tyFs P (tyOf P n) 0 fs.toList).bind fun ts => bif Nat.beq ts.length (P.cellsOf t) then some ts else none
    | _ => none

variable {H : Type} {enc : TypeId × Value → H} {w : World} {base : Nat} {spare : Nat → Bool} {held : Bool} {ω : Nat → Option Lb}

theorem DenL.append {ω : Nat → Option Lb} : ∀ {ts ts' : List T} {vs vs' : List Value}, DenL ω w ts vs → DenL ω w ts' vs' → DenL ω w (ts ++ ts') (vs ++ vs')
  | [], ts', [], vs', _, h' => h'
  | t :: ts, ts', v :: vs, vs', h, h' => ⟨h.1, DenL.append h.2 h'⟩
  | [], _, _ :: _, _, h, _ => h.elim
  | _ :: _, _, [], _, h, _ => h.elim

theorem tyFs_den {r : TypeId → Option (List Ty)} {cs : List Value} : ∀ {fl : List Field} {o : Nat} {ys : List Ty}, tyFs P r o fl = some ys →
    (∀ f ∈ fl, ∀ a, r f.type = some a → ∃ ts, DenL ω w ts ((cs.drop f.offset).take (P.cellsOf f.type)) ∧ WTs a ts) → ∃ ts, DenL ω w ts ((cs.drop o).take ys.length) ∧ WTs ys ts
  | [], o, ys, h, _ => by
    simp only [tyFs, Option.some.injEq] at h
    subst h
    exact ⟨[], by simp [DenL], rfl⟩
  | f :: fl, o, ys, h, hr => by
    unfold tyFs at h
    cases h1 : Nat.beq f.offset o with
    | false => simp [h1] at h
    | true =>
      simp only [h1, cond_true, Option.bind_eq_some_iff] at h
      obtain ⟨a, ha, h⟩ := h
      cases h2 : Nat.beq (P.cellsOf f.type) a.length with
      | false => simp [h2] at h
      | true =>
        simp only [h2, cond_true, Option.bind_eq_some_iff, Option.some.injEq] at h
        obtain ⟨b, hb, rfl⟩ := h
        have e1 := Nat.eq_of_beq_eq_true h1
        have e2 := Nat.eq_of_beq_eq_true h2
        obtain ⟨t1, g1, g2⟩ := hr f (.head _) a ha
        obtain ⟨t2, g3, g4⟩ := tyFs_den hb fun f hf => hr f (.tail _ hf)
        refine ⟨t1 ++ t2, ?_, g2.append g4⟩
        rw [e1, e2] at g1
        rw [List.length_append, List.take_add, List.drop_drop]
        exact g1.append g3

theorem trod_den : ∀ (n m : Nat) {t : TypeId} {cs : List Value} {x : DataW H × List MemPlace} {fs : List Ty}, DataW.trod enc P w 0 spare held n t cs = some x → tyOf P m t = some fs →
    (∀ b, ω b = none) → ∃ ts, DenL ω w ts cs ∧ WTs fs ts := by
  intro n
  induction n with
  | zero => intro m t cs x fs h; simp [DataW.trod] at h
  | succ n ih =>
    intro m t cs x fs h ht hω
    cases m with
    | zero => cases ht
    | succ m =>
      unfold tyOf at ht
      cases hu : P.underlying t with
      | none => rw [hu] at ht; cases ht
      | some u =>
        rw [hu] at ht
        cases u with
        | int k =>
          simp only [Option.some.injEq] at ht
          subst ht
          obtain ⟨a, e0, e1, wa⟩ := DataW.trod_int hu h
          subst e0 e1
          exact ⟨[.c (.int k a)], ⟨.c rfl, trivial⟩, _, _, rfl, ⟨_, rfl, wa⟩, rfl⟩
        | bool =>
          simp only [Option.some.injEq] at ht
          subst ht
          obtain ⟨b, rfl, _⟩ := DataW.trod_bool hu h
          exact ⟨[.c (.bool b)], ⟨.c rfl, trivial⟩, _, _, rfl, ⟨_, rfl⟩, rfl⟩
        | string =>
          simp only [Option.some.injEq] at ht
          subst ht
          obtain ⟨s, rfl, _, hs⟩ := DataW.trod_string hu h
          exact ⟨[.c (.string s)], ⟨.c rfl, trivial⟩, _, _, rfl, ⟨_, rfl, hs⟩, rfl⟩
        | slice e =>
          simp only [Option.bind_eq_some_iff] at ht
          obtain ⟨gs, hg, ht⟩ := ht
          cases hz : gs.isEmpty with
          | true => simp [hz] at ht
          | false =>
            simp only [hz, cond_false, Option.some.injEq] at ht
            subst ht
            rcases DataW.trod_slice hu h with ⟨rfl, _⟩ | ⟨a, len, cap, elems, rest, n', e1, rfl, _, _, hlc, hcm, hel, hat, _⟩
            · exact ⟨[.l []], ⟨.nil, trivial⟩, _, _, rfl, ⟨[], rfl, Nat.zero_le _, by simp⟩, rfl⟩
            · cases e1
              -- each element by itself
              have each : ∀ i, i < len → ∃ vs ts, w.cells? 0 (a.add (i * P.cellsOf e)) (P.cellsOf e) = some vs ∧ DenL ω w ts vs ∧ WTs gs ts := by
                intro i hi
                have h1 := hat i hi
                rw [← hel] at hi
                rw [List.getElem?_eq_getElem hi, Option.bind_eq_some_iff] at h1
                obtain ⟨vs, g1, g2⟩ := h1
                obtain ⟨ts, g3, g4⟩ := ih m g2 hg hω
                exact ⟨vs, ts, g1, g3, g4⟩
              by_cases h0 : len = 0
              · subst h0
                exact ⟨[.l []], ⟨.nil, trivial⟩, _, _, rfl, ⟨[], rfl, Nat.zero_le _, by simp⟩, rfl⟩
              · have hc := fun i => fun hi : i < len => Classical.choose_spec (each i hi)
                let vf : Nat → List Value := fun i => if hi : i < len then Classical.choose (each i hi) else []
                have hv : ∀ i, i < len → ∃ ts, w.cells? 0 (a.add (i * P.cellsOf e)) (P.cellsOf e) = some (vf i) ∧ DenL ω w ts (vf i) ∧ WTs gs ts := by
                  intro i hi
                  have : vf i = Classical.choose (each i hi) := by simp [vf, hi]
                  rw [this]
                  exact hc i hi
                have ht : ∃ tf : Nat → List T, ∀ i, i < len → w.cells? 0 (a.add (i * P.cellsOf e)) (P.cellsOf e) = some (vf i) ∧ DenL ω w (tf i) (vf i) ∧ WTs gs (tf i) := by
                  refine ⟨fun i => if hi : i < len then Classical.choose (hv i hi) else [], fun i hi => ?_⟩
                  have := Classical.choose_spec (hv i hi)
                  simpa [hi] using this
                obtain ⟨tf, htf⟩ := ht
                have hwd : ∀ i, i < len → (vf i).length = P.cellsOf e := fun i hi => (World.cells?_some (htf i hi).1).2.1
                have hgl : ∀ i, i < len → (tf i).length = gs.length := fun i hi => (htf i hi).2.2.length
                have hwp : 0 < P.cellsOf e := by
                  have h1 := hwd 0 (by omega)
                  have h2 := hgl 0 (by omega)
                  have h3 := (htf 0 (by omega)).2.1.length
                  cases gs with
                  | nil => simp at hz
                  | cons _ _ => simp at h2; omega
                obtain ⟨b, off, spot⟩ := a
                have hcell : ∀ i j, i < len → j < P.cellsOf e → w.cell? ((⟨b, off, spot⟩ : Addr).add (i * P.cellsOf e) |>.add j) = (vf i)[j]? := fun i j hi hj => (World.cells?_some (htf i hi).1).2.2 j hj
                have hspot : spot = none := by
                  have := hcell 0 0 (by omega) hwp
                  simp only [Nat.zero_mul, Addr.add, if_true] at this
                  have hl : 0 < (vf 0).length := by rw [hwd 0 (by omega)]; exact hwp
                  rw [List.getElem?_eq_getElem hl] at this
                  unfold World.cell? at this
                  split at this
                  · split at this
                    · cases this
                    · rename_i h; simpa using h
                  · cases this
                subst hspot
                have hadd : ∀ i j, ((⟨b, off, none⟩ : Addr).add (i * P.cellsOf e) |>.add j) = ⟨b, off + (i * P.cellsOf e + j), none⟩ := by
                  intro i j
                  have e1 : ∀ k, (⟨b, off, none⟩ : Addr).add k = ⟨b, off + k, none⟩ := by
                    intro k
                    unfold Addr.add
                    split
                    · rename_i h; subst h; rfl
                    · rfl
                  have e2 : ∀ o k, (⟨b, o, none⟩ : Addr).add k = ⟨b, o + k, none⟩ := by
                    intro o k
                    unfold Addr.add
                    split
                    · rename_i h; subst h; rfl
                    · rfl
                  rw [e1, e2, Nat.add_assoc]
                have hlt : b < w.heap.size := by
                  have := World.cells?_block (htf 0 (by omega)).1 hwp
                  rw [Nat.zero_mul] at this
                  exact this
                have hat2 : ∀ i j t, at2 ((List.range len).map tf) i j = some t → i < len ∧ (tf i)[j]? = some t := by
                  intro i j t h
                  unfold at2 at h
                  rw [Option.bind_eq_some_iff] at h
                  obtain ⟨r, h1, h2⟩ := h
                  rw [List.getElem?_map, Option.map_eq_some_iff] at h1
                  obtain ⟨i', h3, rfl⟩ := h1
                  have hi : i < len := by
                    rcases Nat.lt_or_ge i len with h | h
                    · exact h
                    · rw [List.getElem?_eq_none (by simpa using h)] at h3; cases h3
                  rw [List.getElem?_range hi] at h3
                  cases h3
                  exact ⟨hi, h2⟩
                refine ⟨[.l ((List.range len).map tf)], ⟨?_, trivial⟩, _, _, rfl, ⟨_, rfl, by simp; omega, ?_⟩, rfl⟩
                · have := Den.l (ω := ω) (w := w) (xs := (List.range len).map tf) (b := b) (off := off) (wd := P.cellsOf e) (cap := cap) (cv := fun i j => ((vf i)[j]?).getD default)
                    (by
                      intro r hr
                      rw [List.mem_map] at hr
                      obtain ⟨i, hi, rfl⟩ := hr
                      have hi := List.mem_range.1 hi
                      rw [(htf i hi).2.1.length, hwd i hi])
                    (by simpa using hlc) (hω b) hlt
                    (by
                      intro i j t h
                      obtain ⟨hi, hj⟩ := hat2 i j t h
                      have hj' : j < (vf i).length := by rw [← (htf i hi).2.1.length]; exact (List.getElem?_eq_some_iff.1 hj).1
                      have := hcell i j hi (by rw [← hwd i hi]; exact hj')
                      rw [hadd] at this
                      rw [this, List.getElem?_eq_getElem hj']
                      rfl)
                    (by
                      intro i j t h
                      obtain ⟨hi, hj⟩ := hat2 i j t h
                      have hj' : j < (vf i).length := by rw [← (htf i hi).2.1.length]; exact (List.getElem?_eq_some_iff.1 hj).1
                      refine (htf i hi).2.1.get j t _ hj ?_
                      rw [List.getElem?_eq_getElem hj']
                      rfl)
                  simpa using this
                · intro r hr
                  rw [List.mem_map] at hr
                  obtain ⟨i, hi, rfl⟩ := hr
                  exact (htf i (List.mem_range.1 hi)).2.2
        | struct fl =>
          simp only [Option.bind_eq_some_iff] at ht
          obtain ⟨ys, hy, ht⟩ := ht
          cases hz : Nat.beq ys.length (P.cellsOf t) with
          | false => simp [hz] at ht
          | true =>
            simp only [hz, cond_true, Option.some.injEq] at ht
            subst ht
            obtain ⟨xs, n', e1, _, hl, hxl, hat⟩ := DataW.trod_struct hu h
            cases e1
            obtain ⟨ts, h1, h2⟩ := tyFs_den (ω := ω) (w := w) (cs := cs) hy fun f hf a ha => by
              obtain ⟨i, hi, hfi⟩ := List.getElem_of_mem hf
              have h1 := hat i f (by rw [← hfi, ← Array.getElem?_toList]; exact List.getElem?_eq_getElem hi)
              have hi' : i < xs.length := by rw [hxl]; simpa using hi
              rw [List.getElem?_eq_getElem hi'] at h1
              exact ih m h1 ha hω
            refine ⟨ts, ?_, h2⟩
            rw [List.drop_zero, Nat.eq_of_beq_eq_true hz, ← hl, List.take_length] at h1
            exact h1
        | _ => cases ht

def isStruct (P : Program) (t : TypeId) : Bool :=
  match P.underlying t with
  | some (.struct _) => true
  | _ => false

/-- The kinds of all arguments' cells. -/
def psB (P : Program) : List TypeId → List PS → Option (List Ty)
  | [], [] => some []
  | t :: ts, .v ag n :: ps => (tyOf P 16 t).bind fun fs => bif Nat.beq fs.length n && (isStruct P t == ag) then (psB P ts ps).bind fun gs => some (fs ++ gs) else none
  | _, _ => none

theorem args_in {bl : Nat → Option Nat} (hω : ∀ b, ω b = none) {r : Reach} {b0 : Nat} : ∀ {ts : List TypeId} {vs : List Value} {ds : List (DataW H)} {pl : List MemPlace} {ps : List PS} {ys : List Ty} {i : Nat}, DataW.TrodAll enc P w 0 spare held ts vs ds pl →
    (∀ (j : Nat) t v, ts[j]? = some t → vs[j]? = some v → Value.okWide P w r b0 t v) → psB P ts ps = some ys → ∃ us, ArgIn ω w bl i ps vs us ∧ WTs ys us
  | [], [], [], pl, ps, ys, i, h, hv, hp => by
    cases ps with
    | nil => simp only [psB, Option.some.injEq] at hp; subst hp; exact ⟨[], ⟨rfl, rfl⟩, rfl⟩
    | cons _ _ => simp [psB] at hp
  | t :: ts, v :: vs, d :: ds, pl, ps, ys, i, ⟨p, q, h1, h2, e⟩, hv, hp => by
    cases ps with
    | nil => simp [psB] at hp
    | cons p0 ps =>
      cases p0 with
      | x n => simp [psB] at hp
      | v ag n =>
        simp only [psB, Option.bind_eq_some_iff] at hp
        obtain ⟨fs, hfs, hp⟩ := hp
        cases hc : (Nat.beq fs.length n && (isStruct P t == ag)) with
        | false => simp [hc] at hp
        | true =>
          simp only [hc, cond_true, Option.bind_eq_some_iff, Option.some.injEq] at hp
          obtain ⟨gs, hgs, rfl⟩ := hp
          simp only [Bool.and_eq_true, beq_iff_eq] at hc
          obtain ⟨us, g1, g2⟩ := args_in (bl := bl) (i := i + 1) hω h2 (fun j t v hj hj' => hv (j + 1) t v hj hj') hgs
          obtain ⟨f, h1⟩ := h1
          obtain ⟨t1, g3, g4⟩ := trod_den f 16 h1 hfs hω
          have hok := hv 0 t v rfl rfl
          refine ⟨t1 ++ us, ⟨v, vs, v.cells.toList, t1, us, rfl, rfl, by rw [g4.length]; exact Nat.eq_of_beq_eq_true hc.1, ?_, g3, g1⟩, g4.append g2⟩
          have hs := hc.2
          unfold isStruct at hs
          unfold tyOf at hfs
          cases hu : P.underlying t with
          | none => rw [hu] at hfs; cases hfs
          | some u =>
            rw [hu] at hfs hs
            cases u with
            | int k => obtain ⟨a, rfl⟩ := okWide_int hu hok; subst hs; exact ⟨rfl, fun x h => by cases h⟩
            | bool => obtain ⟨a, rfl⟩ := okWide_bool hu hok; subst hs; exact ⟨rfl, fun x h => by cases h⟩
            | string => obtain ⟨a, rfl⟩ := okWide_string hu hok; subst hs; exact ⟨rfl, fun x h => by cases h⟩
            | slice e => obtain ⟨a, l, c, rfl⟩ := okWide_slice hu hok; subst hs; exact ⟨rfl, fun x h => by cases h⟩
            | struct fl =>
              obtain ⟨cs, rfl, _⟩ := okWide_struct hu hok
              subst hs
              simp [Value.cells]
            | _ => cases hfs
  | [], _ :: _, _, _, _, _, _, h, _, _ => by simp [DataW.TrodAll] at h
  | [], [], _ :: _, _, _, _, _, h, _, _ => by simp [DataW.TrodAll] at h
  | _ :: _, [], _, _, _, _, _, h, _, _ => by simp [DataW.TrodAll] at h
  | _ :: _, _ :: _, [], _, _, _, _, h, _, _ => by simp [DataW.TrodAll] at h

theorem trodAll_stays (hl : laidOutB P = true) {W W' : World} {sp' : Nat → Bool} : ∀ {ts : List TypeId} {vs : List Value} {ds : List (DataW H)} {ps : List MemPlace}, (∀ t ∈ ts, P.readableRec t = true ∧ t < P.types.size) →
    DataW.TrodAll enc P W base (fun _ => true) true ts vs ds ps → (∀ p ∈ ps, W.sameAt W' p) → (∀ p ∈ ps, sp' p.block = true) → DataW.TrodAll enc P W' base sp' true ts vs ds ps
  | [], [], [], _, _, h, _, _ => h
  | t :: ts, _ :: _, _ :: _, _, hT, ⟨p, q, h1, h2, e⟩, hs, hb => ⟨p, q, WideElems.Trod_stays hl (hT t (.head _)).1 (hT t (.head _)).2 h1 (fun x hx => hs x (by rw [e]; exact List.mem_append_left _ hx)) (fun x hx => hb x (by rw [e]; exact List.mem_append_left _ hx)),
      trodAll_stays hl (fun t ht => hT t (.tail _ ht)) h2 (fun x hx => hs x (by rw [e]; exact List.mem_append_right _ hx)) (fun x hx => hb x (by rw [e]; exact List.mem_append_right _ hx)), e⟩
  | [], _ :: _, _, _, _, h, _, _ => by simp [DataW.TrodAll] at h
  | [], [], _ :: _, _, _, h, _, _ => by simp [DataW.TrodAll] at h
  | _ :: _, [], _, _, _, h, _, _ => by simp [DataW.TrodAll] at h
  | _ :: _, _ :: _, [], _, _, h, _, _ => by simp [DataW.TrodAll] at h

end

/-- A law's row: its function is told by a plain one that says 'true' of whatever is well-formed. -/
theorem law_lifted {H : Type} {enc : TypeId × Value → H} {C : Checked} {os : Os} {f : FuncId} {fn : Func} {s : ChangeSpec} {conds : List PathCond} {apart fresh handsOn again : Bool} {sg : Sig} {F : Sem1} {ys : List Ty} {rt : TypeId}
    (own : ownKnob C.prog.godebug = none) (started : os.Started) (noInit : C.prog.inits.idxOf? f = none) (hfn : C.prog.funcs[f]? = some fn)
    (witness : ∃ (w : World) (tape : Tape) (i : Input), w.os = os ∧ (w.forCall tape i).Shaped C.prog ∧ i.vars = [] ∧ Input.okWide C.prog (w.forCall tape i) .any w.heap.size f i ∧
      s.pre6 enc C.prog fn conds apart (w.forCall tape i).memory i.args ∧ ({} : Assume).holds C.prog (lone (Frame.enter C.prog f i.args .normal) [] (w.forCall tape i)))
    (hvars : s.vars = []) (hspec : ∀ ds : List (DataW H), ds.length = fn.params.size → s.fn H ds = { results := [.lit (.bool true)], args := ds })
    (hl : laidOutB C.prog = true) (hread : (fn.params.toList.all fun t => C.prog.readableRec t && Nat.blt t C.prog.types.size) = true)
    (hrt : fn.resultTypes = #[rt]) (hbool : C.prog.underlying rt = some .bool) (hrs : sg.rs = [(false, [.s])])
    (hok : Fok C.prog sg f F) (hps : psB C.prog fn.params.toList sg.ps = some ys) (hF : ∀ ts, WTs ys ts → F ts = some [.c (.bool true)]) :
    ReturnsInHanded {} C os f .any (s.pre6 enc C.prog fn conds apart) (s.post enc C.prog fn apart fresh handsOn again) := by
  refine returnsInHanded_of_change own started noInit hfn witness ?_
  intro W b0 args ds gs before hval hW _ _
  have hW' := hW
  obtain ⟨p, q, hA, hV, rfl, _, _⟩ := hW
  rw [hvars] at hV
  obtain ⟨rfl, rfl⟩ : gs = [] ∧ q = [] := by
    cases gs with
    | nil => exact ⟨rfl, hV⟩
    | cons _ _ => exact hV.elim
  have hlen : ds.length = fn.params.size := by
    have : ∀ {ts : List TypeId} {vs : List Value} {ds : List (DataW H)} {ps : List MemPlace}, DataW.TrodAll enc C.prog W 0 (fun _ => true) true ts vs ds ps → ds.length = ts.length := by
      intro ts
      induction ts with
      | nil => intro vs ds ps h; cases vs <;> cases ds <;> simp_all [DataW.TrodAll]
      | cons t ts ih =>
        intro vs ds ps h
        cases vs with
        | nil => simp [DataW.TrodAll] at h
        | cons v vs =>
          cases ds with
          | nil => simp [DataW.TrodAll] at h
          | cons d ds => obtain ⟨_, _, _, h2, _⟩ := h; simp [ih h2]
    rw [this hA]; simp
  have hT : ∀ t ∈ fn.params.toList, C.prog.readableRec t = true ∧ t < C.prog.types.size := by
    intro t ht
    have := List.all_eq_true.1 hread t ht
    simp only [Bool.and_eq_true] at this
    exact ⟨this.1, Nat.blt_eq ▸ this.2⟩
  obtain ⟨us, hin, hwt⟩ := args_in (ω := fun _ => none) (bl := fun _ => none) (i := 0) (fun _ => rfl) hA (fun j t v h1 h2 => hval j t v (by simpa using h1) (by simpa using h2)) hps
  have hc := hok.2 W (fun _ => none) (fun _ => none) args.toList us _ (hF us hwt) ⟨fun b l h => by (cases h), fun i b h => by (cases h)⟩ hin
  rw [Array.toArray_toList] at hc
  refine hc.mono fun e W' h => ?_
  obtain ⟨v, G, is, o1, o2, rfl, hp⟩ := h
  refine ⟨v, rfl, ?_⟩
  have hold : ∀ x ∈ p ++ [], MemPlace.block x < W.heap.size := hW'.lt
  have hblk : ∀ b, b < W.heap.size → W'.heap[b]? = W.heap[b]? := fun b hb => (hp.free b hb rfl).2
  have hsame : ∀ x ∈ p, W.sameAt W' x := by
    intro x hx
    have hb := hold x (by simpa using hx)
    cases x with
    | cell b o => show W'.cell? _ = W.cell? _; unfold World.cell?; rw [hblk b hb]
    | map b => exact hblk b hb
  have hv : v = .bool true := by
    have h1 := hp.ret
    rw [hrs] at h1
    obtain ⟨t1, t2, i1, i2, e1, e2, h1, h2⟩ := h1
    obtain ⟨h1, _⟩ := h1
    have h3 := hp.outs
    rw [e1] at h3
    cases t1 with
    | nil => simp [OutCs] at h1
    | cons t t1 =>
      cases i1 with
      | nil => simp [OutCs] at h1
      | cons i i1 =>
        simp only [List.cons_append, List.cons.injEq] at h3
        rw [← h3.1] at h1
        obtain ⟨_, hd, _⟩ := h1
        cases hd
        rfl
  subst hv
  have hargs := fun sp hsp => trodAll_stays (enc := enc) (base := 0) (sp' := sp) hl hT hA hsame hsp
  have hsp := hspec ds hlen
  have hok1 : ∀ (j : Nat) (t : TypeId) (r : Value), fn.resultTypes[j]? = some t → ((Value.bool true).resultList fn.resultTypes.size)[j]? = some r → Value.okWide C.prog W' .any 0 t r := by
    intro j t r hj hr
    rw [hrt] at hj hr
    have hj0 : j = 0 := by
      rcases Nat.eq_zero_or_pos j with h | h
      · exact h
      · have : (#[rt] : Array TypeId)[j]? = none := by simp; omega
        rw [this] at hj; cases hj
    subst hj0
    cases hj; cases hr
    simp [Value.okWide, hbool, Cell.okWide, Cell.ok]
  have hres : ∀ (b : Nat) (sp : Nat → Bool) (hd : Bool), DataW.TrodAll enc C.prog W' b sp hd fn.resultTypes.toList ((Value.bool true).resultList fn.resultTypes.size) (s.fn H (ds ++ [])).results [] := by
    intro b sp hd
    rw [List.append_nil, hsp, hrt]
    exact ⟨[], [], ⟨1, by simp [DataW.trod, hbool, Value.cells]⟩, rfl, rfl⟩
  have harg : ∀ sp : Nat → Bool, (∀ x ∈ p, sp x.block = true) → DataW.TrodAll enc C.prog W' 0 sp true fn.params.toList args.toList (s.fn H (ds ++ [])).args p := by
    intro sp hs
    rw [List.append_nil, hsp]
    exact hargs sp hs
  have hvar : ∀ sp : Nat → Bool, DataW.TrodVars enc C.prog W' sp s.vars (s.fn H (ds ++ [])).vars [] := by
    intro sp
    rw [List.append_nil, hsp, hvars]
    rfl
  have hW2 := hW'
  obtain ⟨_, _, _, _, _, hz, hn⟩ := hW2
  refine ⟨ds, [], p ++ [], [], p, [], hW', hres _ _ _, harg _ (fun x hx => decide_eq_true (hold x (by simpa using hx))), hvar _, ⟨hp.so.os, hp.so.output, fun i hi => ?_⟩, fun _ => ⟨hok1, _, [], p ++ [], ⟨[] ++ p, [], trodAll_append (harg _ fun _ _ => rfl) (hres _ _ _), by rw [hvars]; rfl, rfl, ?_, hn⟩, ?_⟩⟩
  · rw [hblk i hi]
    cases W.heap[i]? with
    | none => trivial
    | some o => cases o <;> simp
  · intro b off hm
    have h1 := hz b off hm
    have hb := hold _ hm
    unfold World.frozen? at h1 ⊢
    rw [show W'.heap[(⟨b, off, none⟩ : Addr).block]? = W.heap[(⟨b, off, none⟩ : Addr).block]? from hblk b hb]
    exact h1
  · intro x hx _
    exact hx

end Go.Proofs.YtmljdpfdpeiniaaC

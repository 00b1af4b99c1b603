import Derived.Test.YtmheohnbkaoipaaSFiV
open Go Go.Proofs Go.Proofs.Ytmheohnbkaoipaa.Vs
namespace Go.Proofs.Ytmheohnbkaoipaa.Vs
set_option linter.all false
set_option linter.unusedSimpArgs false
set_option linter.unusedVariables false
/-! the least order that fits -/
/-- One step of the program's search. -/
noncomputable def fitC (l : List DtCall) (p : List Int) (V : Nat → Option (List Int)) (k : Nat) : Option (List Int) := if (k : Int) ∈ p ∨ p.any (lateB l k) = true ∨ ¬ stR (stP l p) (cmdA l k) = txtA l k then none else V k
noncomputable def resF (l : List DtCall) (p : List Int) (V : Nat → Option (List Int)) : Option (List Int) := if p.length = l.length then some p else (List.range l.length).findSome? (fitC l p V)
noncomputable def fitI (l : List DtCall) : Nat → List Int → Option (List Int)
 | 0, p => resF l p fun _ => none
 | d + 1, p => resF l p fun k => fitI l d (p ++ [(k : Int)])
/-- One step of the reference's search. -/
def MayP' (l : List DtCall) (p : List Int) (k : Nat) : Prop := ∀ j : Nat, j < l.length → (j : Int) ∈ p ∨ j = k ∨ lateB l j k = false
noncomputable def fndC (l : List DtCall) (p : List Int) (V : Nat → Option (List Int)) (k : Nat) : Option (List Int) := if (k : Int) ∈ p ∨ decB (MayP' l p k) = false ∨ ¬ stR (stP l p) (cmdA l k) = txtA l k then none else (V k).map ((k : Int) :: ·)
noncomputable def allS (l : List DtCall) (p : List Int) : Bool := decB (∀ k : Nat, k < l.length → (k : Int) ∈ p)
noncomputable def resV (l : List DtCall) (p : List Int) (V : Nat → Option (List Int)) : Option (List Int) := match (List.range l.length).findSome? (fndC l p V) with
 | some r => some r
 | none => if allS l p = true then some [] else none
noncomputable def fndI (l : List DtCall) : Nat → List Int → Option (List Int)
 | 0, p => resV l p fun _ => none
 | d + 1, p => resV l p fun k => fndI l d (p ++ [(k : Int)])
theorem znj {α : Type} {f : Nat → Option α} {n k : Nat} (hk : k < n) {r : α} (h : f k = some r) (hb : ∀ j, j < k → f j = none) : (List.range n).findSome? f = some r := by
 induction n with
 | zero => omega
 | succ n ih =>
  rw [List.range_succ, List.findSome?_append]
  by_cases e : k < n
  ·rw [ih e]; rfl
  ·obtain rfl : k = n := by omega
   have : (List.range k).findSome? f = none := by
    rw [List.findSome?_eq_none_iff]
    intro x hx
    exact hb x (List.mem_range.1 hx)
   rw [this]
   simp [h]
theorem zl8 {α : Type} {f : Nat → Option α} {n : Nat} (hb : ∀ j, j < n → f j = none) : (List.range n).findSome? f = none := by
 rw [List.findSome?_eq_none_iff]
 intro x hx
 exact hb x (List.mem_range.1 hx)
theorem zrw {α : Type} {f : Nat → Option α} {n : Nat} {r : α} (h : (List.range n).findSome? f = some r) : ∃ k, k < n ∧ f k = some r := by
 obtain ⟨k, hk, e⟩ := List.exists_of_findSome?_eq_some h
 exact ⟨k, List.mem_range.1 hk, e⟩
theorem find_map {α β : Type} {f : Nat → Option α} {g : Nat → Option β} {m : β → α} {n : Nat} (h : ∀ k, k < n → f k = (g k).map m) : (List.range n).findSome? f = ((List.range n).findSome? g).map m := by
 induction n with
 | zero => rfl
 | succ n ih =>
  rw [List.range_succ, List.findSome?_append, List.findSome?_append, ih fun k hk => h k (by omega)]
  cases (List.range n).findSome? g with
  | some x => rfl
  | none => simp [h n (by omega)]
/-- What the search finds goes on with what it began with, and fits from there on. -/
theorem fitI_ok (l : List DtCall) : ∀ (d : Nat) (q o : List Int), fitI l d q = some o → (∃ r, o = q ++ r) ∧ o.length = l.length ∧ ∀ i, q.length ≤ i → FitP l o i := by
 have key : ∀ (q o : List Int) (V : Nat → Option (List Int)), resF l q V = some o → (∀ k o, V k = some o → (∃ r, o = (q ++ [(k : Int)]) ++ r) ∧ o.length = l.length ∧ ∀ i, q.length + 1 ≤ i → FitP l o i) → (∃ r, o = q ++ r) ∧ o.length = l.length ∧ ∀ i, q.length ≤ i → FitP l o i := by
  intro q o V h hV
  unfold resF at h
  by_cases e : q.length = l.length
  ·rw [if_pos e] at h
   cases h
   exact ⟨⟨[], by simp⟩, e, fun i hi h => by omega⟩
  ·rw [if_neg e] at h
   obtain ⟨k, hk, h⟩ := zrw h
   unfold fitC at h
   split at h
   ·cases h
   ·rename_i hc
    obtain ⟨⟨r, hr⟩, h2, h3⟩ := hV k o h
    refine ⟨⟨[(k : Int)] ++ r, by rw [hr, List.append_assoc]⟩, h2, fun i hi => ?_⟩
    by_cases hi2 : q.length + 1 ≤ i
    ·exact h3 i hi2
    ·obtain rfl : i = q.length := by omega
     intro hlt
     have e1 : o[q.length] = (k : Int) := by subst hr; simp
     have e2 : o.take q.length = q := by subst hr; simp
     simp only [e1, e2]
     have hc' := not_or.1 hc
     have hc2 := not_or.1 hc'.2
     exact ⟨by omega, by omega, hc'.1, by simpa using hc2.1, Classical.not_not.1 hc2.2⟩
 intro d
 induction d with
 | zero => intro q o h; exact key q o _ h fun k o h => by cases h
 | succ d ih =>
  intro q o h
  refine key q o _ h fun k o h => ?_
  have := ih _ _ h
  simpa using this
def GoodO (l : List DtCall) (p : List Int) : Prop := ∀ i, FitQ l p i
theorem good_nil (l : List DtCall) : GoodO l [] := fun i h => by simp at h
theorem good_snoc {l : List DtCall} {p : List Int} (h : GoodO l p) {k : Nat} (hk : k < l.length) (h1 : (k : Int) ∉ p) (h2 : MayP' l p k) (h3 : stR (stP l p) (cmdA l k) = txtA l k) : GoodO l (p ++ [(k : Int)]) := by
 intro i hi
 by_cases e : i < p.length
 ·have e1 : (p ++ [(k : Int)])[i] = p[i] := List.getElem_append_left e
  have e2 : (p ++ [(k : Int)]).take i = p.take i := List.take_append_of_le_length (by omega)
  have e3 : (p ++ [(k : Int)]).take (i + 1) = p.take (i + 1) := List.take_append_of_le_length (by omega)
  have := h i e
  simp only [e1, e2, e3]
  exact this
 ·obtain rfl : i = p.length := by simp at hi; omega
  have e1 : (p ++ [(k : Int)])[p.length] = (k : Int) := by simp
  have e2 : (p ++ [(k : Int)]).take p.length = p := by simp
  have e3 : (p ++ [(k : Int)]).take (p.length + 1) = p ++ [(k : Int)] := List.take_of_length_le (by simp)
  simp only [e1, e2, e3]
  refine ⟨by omega, by omega, h1, fun j hj hn => ?_, h3⟩
  simp only [List.mem_append, List.mem_singleton, not_or] at hn
  rcases h2 j hj with h | h | h
  ·exact absurd h hn.1
  ·exact absurd (by omega) hn.2
  ·exact h
theorem good_nd {l : List DtCall} {p : List Int} (h : GoodO l p) : p.Nodup := znf fun i hi => (h i hi).2.2.1
theorem zv4 {l : List DtCall} {p : List Int} (h : GoodO l p) : ∀ x ∈ p, 0 ≤ x ∧ x < (l.length : Int) := fun x hx => by
 obtain ⟨a, ha, rfl⟩ := List.getElem_of_mem hx
 exact ⟨(h a ha).1, (h a ha).2.1⟩
theorem good_late {l : List DtCall} {p : List Int} (h : GoodO l p) {k : Nat} (hk : k < l.length) (hn : (k : Int) ∉ p) : p.any (lateB l k) = false := by
 rw [List.any_eq_false]
 intro x hx
 obtain ⟨a, ha, rfl⟩ := List.getElem_of_mem hx
 have := (h a ha).2.2.2.1 k hk fun hm => hn (List.mem_of_mem_take hm)
 simp [this]
theorem not_all {l : List DtCall} {p : List Int} (hl : p.length < l.length) : ∃ k : Nat, k < l.length ∧ (k : Int) ∉ p := by
 refine Classical.byContradiction fun hc => ?_
 have h : ∀ k : Nat, k < l.length → (k : Int) ∈ p := fun k hk => Classical.byContradiction fun hn => hc ⟨k, hk, hn⟩
 have := nd_len (List.range l.length) (p.map Int.toNat) List.nodup_range fun x hx => List.mem_map.2 ⟨x, h x (List.mem_range.1 hx), by simp⟩
 simp at this
 omega
theorem fit_fnd (l : List DtCall) : ∀ (d : Nat) (p : List Int), GoodO l p → l.length = p.length + d → fitI l d p = (fndI l d p).map (p ++ ·) := by
 intro d
 induction d with
 | zero =>
  intro p hg hl
  have hall : ∀ k : Nat, k < l.length → (k : Int) ∈ p := fun k hk => all_in (good_nd hg) (zv4 hg) (by omega) k hk
  have h1 : (List.range l.length).findSome? (fndC l p fun _ => none) = none := zl8 fun j hj => by unfold fndC; rw [if_pos (.inl (hall j hj))]
  have h2 : fndI l 0 p = some [] := by
   show resV l p _ = _
   unfold resV
   rw [h1]
   simp only
   rw [if_pos (show allS l p = true from zcc hall)]
  have h3 : fitI l 0 p = some p := by
   show resF l p _ = _
   unfold resF
   rw [if_pos (by omega)]
  rw [h2, h3]; simp
 | succ d ih =>
  intro p hg hl
  obtain ⟨k0, hk0, hn0⟩ := not_all (l := l) (p := p) (by omega)
  have h3 : fitI l (d + 1) p = (List.range l.length).findSome? (fitC l p fun k => fitI l d (p ++ [(k : Int)])) := by
   show resF l p _ = _
   unfold resF
   rw [if_neg (by omega)]
  have h2 : fndI l (d + 1) p = (List.range l.length).findSome? (fndC l p fun k => fndI l d (p ++ [(k : Int)])) := by
   show resV l p _ = _
   unfold resV
   have ha : ¬ allS l p = true := by unfold allS; rw [zba]; exact fun h => hn0 (h k0 hk0)
   split
   ·rename_i h; rw [h]
   ·rename_i h; rw [h, if_neg ha]
  rw [h2, h3]
  refine find_map fun k hk => ?_
  unfold fitC fndC
  dsimp only
  by_cases h1 : (k : Int) ∈ p
  ·rw [if_pos (.inl h1), if_pos (.inl h1)]; rfl
  ·have hla := good_late hg hk h1
   by_cases ht : stR (stP l p) (cmdA l k) = txtA l k
   ·by_cases hm : MayP' l p k
    ·have e := ih (p ++ [(k : Int)]) (good_snoc hg hk h1 hm ht) (by simp; omega)
     rw [if_neg (by simp [h1, hla, ht]), if_neg (by simp [h1, ht, zbb]; exact hm), e, Option.map_map]
     cases fndI l d (p ++ [(k : Int)]) with
     | none => rfl
     | some r => simp
    ·rw [if_neg (by simp [h1, hla, ht]), if_pos (.inr (.inl (zc6 hm)))]
     cases hf : fitI l d (p ++ [(k : Int)]) with
     | none => rfl
     | some o =>
      exfalso
      obtain ⟨⟨r, hr⟩, ho, hP⟩ := fitI_ok l d _ _ hf
      apply hm
      intro j hj
      refine Classical.byContradiction fun hc => ?_
      simp only [not_or] at hc
      obtain ⟨c1, c2, c3⟩ := hc
      have hnd : o.Nodup := znf fun i hi hm2 => by
       by_cases e : (p ++ [(k : Int)]).length ≤ i
       ·exact (hP i e hi).2.2.1 hm2
       ·have e1 : o.take i = (p ++ [(k : Int)]).take i := by subst hr; rw [List.take_append_of_le_length (by omega)]
        have e2 : o[i] = (p ++ [(k : Int)])[i]'(by omega) := by subst hr; rw [List.getElem_append_left]
        rw [e1, e2] at hm2
        by_cases e3 : i < p.length
        ·rw [List.take_append_of_le_length (by omega), List.getElem_append_left e3] at hm2
         exact (hg i e3).2.2.1 hm2
        ·obtain rfl : i = p.length := by simp at e; omega
         simp at hm2
         exact h1 hm2
      have hrg : ∀ x ∈ o, 0 ≤ x ∧ x < (l.length : Int) := fun x hx => by
       obtain ⟨i, hi, rfl⟩ := List.getElem_of_mem hx
       by_cases e : (p ++ [(k : Int)]).length ≤ i
       ·exact ⟨(hP i e hi).1, (hP i e hi).2.1⟩
       ·have e2 : o[i] = (p ++ [(k : Int)])[i]'(by omega) := by subst hr; rw [List.getElem_append_left]
        rw [e2]
        have := List.getElem_mem (l := p ++ [(k : Int)]) (n := i) (by omega)
        rcases List.mem_append.1 this with hx | hx
        ·exact zv4 hg _ hx
        ·rw [List.mem_singleton.1 hx]; omega
      obtain ⟨i, hi, e⟩ := List.getElem_of_mem (all_in hnd hrg ho j hj)
      have hil : (p ++ [(k : Int)]).length ≤ i := by
       refine Nat.le_of_not_lt fun hil => ?_
       have e2 : o[i] = (p ++ [(k : Int)])[i]'hil := by subst hr; rw [List.getElem_append_left]
       have := List.getElem_mem (l := p ++ [(k : Int)]) hil
       rw [← e2, e] at this
       rcases List.mem_append.1 this with hx | hx
       ·exact c1 hx
       ·have := List.mem_singleton.1 hx
        omega
      have h6 := (hP i hil hi).2.2.2.1
      rw [List.any_eq_false] at h6
      have hkm : (k : Int) ∈ o.take i := by
       have hpl : p.length < i := by simp at hil; omega
       refine List.mem_iff_getElem.2 ⟨p.length, by simp; omega, ?_⟩
       simp only [List.getElem_take]
       subst hr
       simp
      have := h6 _ hkm
      rw [e] at this
      simp at this
      exact c3 this
   ·rw [if_pos (.inr (.inr ht)), if_pos (.inr (.inr ht))]; rfl
theorem fit_fnd0 (l : List DtCall) : fitI l l.length [] = fndI l l.length [] := by
 rw [fit_fnd l l.length [] (good_nil l) (by simp)]
 cases fndI l l.length [] <;> simp
end Go.Proofs.Ytmheohnbkaoipaa.Vs

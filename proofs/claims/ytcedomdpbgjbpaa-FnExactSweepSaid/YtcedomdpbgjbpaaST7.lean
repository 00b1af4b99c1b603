import Derived.Test.YtcedomdpbgjbpaaVs8
import Derived.Sort.Walk0
open Go Go.Proofs
namespace Go.Proofs.Ytcedomdpbgjbpaa.Vs
set_option linter.unusedVariables false
set_option linter.unusedSimpArgs false
set_option linter.unusedSectionVars false
set_option linter.unnecessarySimpa false
set_option linter.all false
set_option linter.unusedSimpArgs false
set_option linter.unusedVariables false
abbrev Str := List UInt8
theorem str_irr (x : Str) : ¬ x < x := List.lt_irrefl x
theorem str_tr {x y z : Str} (h : x < y) (k : y < z) : x < z := List.lt_trans h k
theorem str_tot (x y : Str) : x < y ∨ x = y ∨ y < x := by
  by_cases h : x < y
  · exact .inl h
  · by_cases k : y < x
    · exact .inr (.inr k)
    · exact .inr (.inl (List.le_antisymm (by simpa using k) (by simpa using h)))
theorem str_le (x y : Str) : x ≤ y ↔ x < y ∨ x = y := by
  constructor
  · intro h
    rcases str_tot x y with k | k | k
    · exact .inl k
    · exact .inr k
    · exact absurd h (by simpa using k)
  · rintro (h | rfl)
    · exact List.le_of_lt h
    · exact List.le_refl x
theorem bless (x y : Str) : Op.bytesLess x y = true ↔ x < y := by rw [bytesLess_eq]; simp
/-- Two ascending rows with the same members are the same. -/
theorem asc_ext : ∀ (l k : List Str), l.Pairwise (· < ·) → k.Pairwise (· < ·) → (∀ x, x ∈ l ↔ x ∈ k) → l = k
  | [], [], _, _, _ => rfl
  | [], y :: k, _, _, h => by have := (h y).2 (by simp); simp at this
  | x :: l, [], _, _, h => by have := (h x).1 (by simp); simp at this
  | x :: l, y :: k, hl, hk, h => by
    rw [List.pairwise_cons] at hl hk
    have e : x = y := by
      rcases List.mem_cons.1 ((h x).1 (by simp)) with e | e
      · exact e
      · rcases List.mem_cons.1 ((h y).2 (by simp)) with e2 | e2
        · exact e2.symm
        · exact absurd (str_tr (hl.1 _ e2) (hk.1 _ e)) (str_irr _)
    subst e
    congr 1
    refine asc_ext l k hl.2 hk.2 fun z => ?_
    constructor
    · intro hz
      rcases List.mem_cons.1 ((h z).1 (by simp [hz])) with e | e
      · subst e; exact absurd (hl.1 _ hz) (str_irr _)
      · exact e
    · intro hz
      rcases List.mem_cons.1 ((h z).2 (by simp [hz])) with e | e
      · subst e; exact absurd (hk.1 _ hz) (str_irr _)
      · exact e
/-- Behind m places. -/
theorem cmp_inv (l : List Str) (hs : l.Pairwise (· ≤ ·)) : ∀ m, m ≤ l.length → (Lib.compactUpTo l.toArray m).Pairwise (· < ·) ∧ ∀ x, x ∈ Lib.compactUpTo l.toArray m ↔ ∃ j, ∃ h : j < l.length, j < m ∧ l[j] = x
  | 0, _ => by simp [Lib.compactUpTo]
  | m + 1, hm => by
    obtain ⟨h1, h2⟩ := cmp_inv l hs m (by omega)
    have hg : l.toArray[m]! = l[m] := by simp [show m < l.length by omega]
    rw [Lib.compactUpTo_succ, hg]
    by_cases hk : Lib.keeps l.toArray m = true
    · rw [if_pos hk]
      refine ⟨?_, fun x => ?_⟩
      · rw [List.pairwise_append]
        refine ⟨h1, by simp, fun a ha b hb => ?_⟩
        obtain rfl : b = l[m] := by simpa using hb
        obtain ⟨j, hj, hjm, rfl⟩ := (h2 a).1 ha
        have hm0 : 0 < m := by omega
        have hg2 : l.toArray[m - 1]! = l[m - 1] := by simp [show m - 1 < l.length by omega]
        have hne : l[m] ≠ l[m - 1] := by
          have : m = 0 ∨ l.toArray[m]! ≠ l.toArray[m - 1]! := by simpa [Lib.keeps] using hk
          rcases this with h | h
          · omega
          · rwa [hg, hg2] at h
        have hlt : l[m - 1] < l[m] := by
          have := List.pairwise_iff_getElem.1 hs (m - 1) m (by omega) (by omega) (by omega)
          rcases (str_le _ _).1 this with h | h
          · exact h
          · exact absurd h.symm hne
        by_cases hj2 : j = m - 1
        · subst hj2; exact hlt
        · have := List.pairwise_iff_getElem.1 hs j (m - 1) hj (by omega) (by omega)
          rcases (str_le _ _).1 this with h | h
          · exact str_tr h hlt
          · rw [h]; exact hlt
      · rw [List.mem_append, h2]
        constructor
        · rintro (⟨j, hj, hjm, e⟩ | e)
          · exact ⟨j, hj, by omega, e⟩
          · exact ⟨m, by omega, by omega, by simpa using (List.mem_singleton.1 e).symm⟩
        · rintro ⟨j, hj, hjm, e⟩
          by_cases hj2 : j = m
          · subst hj2; exact .inr (by simp [e])
          · exact .inl ⟨j, hj, by omega, e⟩
    · rw [if_neg hk]
      refine ⟨by simpa using h1, fun x => ?_⟩
      rw [List.append_nil, h2]
      constructor
      · rintro ⟨j, hj, hjm, e⟩
        exact ⟨j, hj, by omega, e⟩
      · rintro ⟨j, hj, hjm, e⟩
        by_cases hj2 : j = m
        · subst hj2
          have : ¬ (j = 0 ∨ l.toArray[j]! ≠ l.toArray[j - 1]!) := by simpa [Lib.keeps] using hk
          have hj0 : j ≠ 0 := fun h => this (.inl h)
          have hg2 : l.toArray[j - 1]! = l[j - 1] := by simp [show j - 1 < l.length by omega]
          have he : l[j] = l[j - 1] := by
            by_cases h : l[j] = l[j - 1]
            · exact h
            · exact absurd (.inr (by rw [hg, hg2]; exact h)) this
          exact ⟨j - 1, by omega, by omega, by rw [← he, e]⟩
        · exact ⟨j, hj, by omega, e⟩
def sortS (l : List Str) : List Str := l.mergeSort fun x y => decide (x ≤ y)
theorem sortS_len (l : List Str) : (sortS l).length = l.length := List.length_mergeSort _
theorem sortS_mem (l : List Str) (x : Str) : x ∈ sortS l ↔ x ∈ l := (List.mergeSort_perm l _).mem_iff
theorem sortS_asc (l : List Str) : (sortS l).Pairwise (· ≤ ·) := by
  have := List.pairwise_mergeSort (le := fun (x y : Str) => decide (x ≤ y)) (fun a b c h1 h2 => by
    simp only [decide_eq_true_eq, str_le] at *
    rcases h1 with h1 | rfl
    · rcases h2 with h2 | rfl
      · exact .inl (str_tr h1 h2)
      · exact .inl h1
    · exact h2) (fun a b => by
    simp only [Bool.or_eq_true, decide_eq_true_eq, str_le]
    rcases str_tot a b with h | h | h
    · exact .inl (.inl h)
    · exact .inl (.inr h)
    · exact .inr (.inl h)) l
  exact this.imp fun h => by simpa using h
/-- The members of a row, ascending. -/
def setS (l : List Str) : List Str := Lib.compact (sortS l)
theorem setS_asc (l : List Str) : (setS l).Pairwise (· < ·) := (cmp_inv _ (sortS_asc l) _ (Nat.le_refl _)).1
theorem setS_mem (l : List Str) (x : Str) : x ∈ setS l ↔ x ∈ l := by
  rw [setS, Lib.compact, (cmp_inv _ (sortS_asc l) _ (Nat.le_refl _)).2, ← sortS_mem l x]
  constructor
  · rintro ⟨j, h, -, rfl⟩; exact List.getElem_mem _
  · intro h
    obtain ⟨j, hj, e⟩ := List.mem_iff_getElem.1 h
    exact ⟨j, hj, hj, e⟩
theorem setS_len (l : List Str) : (setS l).length ≤ l.length := by
  have := compact_len (sortS l)
  rw [sortS_len] at this
  exact this
/-- x put ahead of the first that is greater. -/
def ins (x : Str) : Bool → List Str → List Str
  | b, [] => bif b then [] else [x]
  | b, y :: l => bif !b && !(Op.bytesLess y x || y == x) then x :: y :: ins x true l else y :: ins x b l
theorem ins_true (x : Str) : ∀ l, ins x true l = l
  | [] => rfl
  | y :: l => by unfold ins; simp [ins_true x l]
theorem gt_iff (x y : Str) : (!(Op.bytesLess y x || y == x)) = true ↔ x < y := by
  rw [Bool.not_eq_true', Bool.or_eq_false_iff, ← Bool.not_eq_true, bless, beq_eq_false_iff_ne]
  rcases str_tot x y with h | rfl | h
  · exact ⟨fun _ => h, fun _ => ⟨fun k => str_irr _ (str_tr h k), fun e => by subst e; exact str_irr _ h⟩⟩
  · exact ⟨fun k => absurd rfl k.2, fun k => absurd k (str_irr _)⟩
  · exact ⟨fun k => absurd h k.1, fun k => absurd (str_tr h k) (str_irr _)⟩
theorem ins_asc (x : Str) : ∀ (l : List Str), l.Pairwise (· < ·) → x ∉ l → (ins x false l).Pairwise (· < ·) ∧ ∀ z, z ∈ ins x false l ↔ z = x ∨ z ∈ l
  | [], _, _ => by simp [ins]
  | y :: l, hl, hx => by
    rw [List.pairwise_cons] at hl
    have hne : x ≠ y := fun e => hx (by simp [e])
    unfold ins
    cases hb : !(Op.bytesLess y x || y == x) with
    | true =>
      rw [gt_iff] at hb
      simp only [Bool.not_false, Bool.true_and, cond_true, ins_true]
      refine ⟨?_, fun z => by simp⟩
      rw [List.pairwise_cons, List.pairwise_cons]
      refine ⟨fun z hz => ?_, hl⟩
      rcases List.mem_cons.1 hz with rfl | hz
      · exact hb
      · exact str_tr hb (hl.1 z hz)
    | false =>
      have hb' : ¬ x < y := by rw [← gt_iff, hb]; simp
      have hyx : y < x := by
        rcases str_tot x y with h | h | h
        · exact absurd h hb'
        · exact absurd h hne
        · exact h
      obtain ⟨i1, i2⟩ := ins_asc x l hl.2 (fun h => hx (by simp [h]))
      simp only [Bool.not_false, Bool.true_and, cond_false]
      refine ⟨?_, fun z => ?_⟩
      · rw [List.pairwise_cons]
        refine ⟨fun z hz => ?_, i1⟩
        rcases (i2 z).1 hz with rfl | hz
        · exact hyx
        · exact hl.1 z hz
      · rw [List.mem_cons, i2, List.mem_cons]
        constructor
        · rintro (h | h | h)
          · exact .inr (.inl h)
          · exact .inl h
          · exact .inr (.inr h)
        · rintro (h | h | h)
          · exact .inr (.inl h)
          · exact .inl h
          · exact .inr (.inr h)
def putS (l : List Str) (x : Str) : List Str := ins x (decide (x ∈ l)) l
theorem putS_asc (l : List Str) (x : Str) (h : l.Pairwise (· < ·)) : (putS l x).Pairwise (· < ·) ∧ ∀ z, z ∈ putS l x ↔ z = x ∨ z ∈ l := by
  unfold putS
  by_cases hx : x ∈ l
  · rw [decide_eq_true hx, ins_true]
    exact ⟨h, fun z => ⟨.inr, fun k => by rcases k with rfl | k; exact hx; exact k⟩⟩
  · rw [decide_eq_false hx]
    exact ins_asc x l h hx
theorem foldS_asc : ∀ (xs l : List Str), l.Pairwise (· < ·) → (xs.foldl putS l).Pairwise (· < ·) ∧ ∀ z, z ∈ xs.foldl putS l ↔ z ∈ xs ∨ z ∈ l
  | [], l, h => by simp [h]
  | x :: xs, l, h => by
    obtain ⟨h1, h2⟩ := putS_asc l x h
    obtain ⟨h3, h4⟩ := foldS_asc xs (putS l x) h1
    refine ⟨h3, fun z => ?_⟩
    show z ∈ xs.foldl putS (putS l x) ↔ _
    rw [h4, h2, List.mem_cons]
    constructor
    · rintro (h | h | h)
      · exact .inl (.inr h)
      · exact .inl (.inl h)
      · exact .inr h
    · rintro ((h | h) | h)
      · exact .inr (.inl h)
      · exact .inl h
      · exact .inr (.inr h)
theorem foldS_set (xs : List Str) : xs.foldl putS [] = setS xs := by
  obtain ⟨h1, h2⟩ := foldS_asc xs [] List.Pairwise.nil
  exact asc_ext _ _ h1 (setS_asc xs) fun z => by rw [h2, setS_mem]; simp
theorem ins_len (x : Str) : ∀ (b : Bool) (l : List Str), (ins x b l).length ≤ l.length + 1
  | b, [] => by unfold ins; cases b <;> simp
  | b, y :: l => by
    unfold ins
    have h1 := ins_len x b l
    cases (!b && !(Op.bytesLess y x || y == x)) <;> simp [ins_true] <;> omega
end Go.Proofs.Ytcedomdpbgjbpaa.Vs

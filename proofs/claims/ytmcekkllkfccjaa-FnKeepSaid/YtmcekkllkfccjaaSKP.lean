import Derived.Test.YtmcekkllkfccjaaSK8
open Go Go.Proofs Go.Proofs.Ytmcekkllkfccjaa.Vs
namespace Go.Proofs.Ytmcekkllkfccjaa.Vs
set_option linter.unusedVariables false
set_option linter.unusedSimpArgs false
set_option linter.unusedSectionVars false
set_option linter.unnecessarySimpa false
set_option linter.all false
set_option linter.unusedSimpArgs false
set_option linter.unusedVariables false
/-- The day, its number and the place in the day, behind n times from the end. -/
def stD (l : List Int) : Nat → Int × Int × Int
  | 0 => (-1, 0, 0)
  | n + 1 => if l.getD (l.length - 1 - n) 0 / 24 = (stD l n).1 then ((stD l n).1, (stD l n).2.1, (stD l n).2.2 + 1) else (l.getD (l.length - 1 - n) 0 / 24, (stD l n).2.1 + 1, 1)
theorem stD_s (l : List Int) (n : Nat) : stD l (n + 1) = if l.getD (l.length - 1 - n) 0 / 24 = (stD l n).1 then ((stD l n).1, (stD l n).2.1, (stD l n).2.2 + 1) else (l.getD (l.length - 1 - n) 0 / 24, (stD l n).2.1 + 1, 1) := rfl
def kbN (l : List Int) (r : DtRule) (n : Nat) : Bool := kb n r (stD l n).2.1 (stD l n).2.2
theorem kp_get (l : List Int) (r : DtRule) : ∀ (m : Nat) (out : List Bool), m ≤ l.length → out.length = l.length →
    ∀ i, (kp l r m (stD l (l.length - m)).1 (stD l (l.length - m)).2.1 (stD l (l.length - m)).2.2 out)[i]? = if i < m then some (kbN l r (l.length - i)) else out[i]?
  | 0, out, _, _, i => by simp [kp]
  | m + 1, out, hm, ho, i => by
    have e1 : l.length - m = (l.length - (m + 1)) + 1 := by omega
    have e2 : l.length - 1 - (l.length - (m + 1)) = m := by omega
    have hs := kp_get l r m
    rw [e1] at hs
    rw [stD_s] at hs
    simp only [e2] at hs
    unfold kp
    have hk : ((l.length : Int) - (m : Nat)) = ((l.length - m : Nat) : Int) := by omega
    have hset : ∀ v, v = kbN l r (l.length - m) → (if i < m then some (kbN l r (l.length - i)) else (out.set m v)[i]?) = if i < m + 1 then some (kbN l r (l.length - i)) else out[i]? := by
      rintro v rfl
      by_cases h1 : i < m
      · rw [if_pos h1, if_pos (by omega)]
      · rw [if_neg h1]
        by_cases h2 : i = m
        · subst h2
          rw [if_pos (by omega), List.getElem?_set_self (by omega)]
        · rw [if_neg (by omega), List.getElem?_set_ne (fun h => h2 h.symm)]
    by_cases hd : l.getD m 0 / 24 = (stD l (l.length - (m + 1))).1
    · rw [if_pos hd]
      simp only [if_pos hd] at hs
      rw [hs _ (by omega) (by simpa using ho) i, hset]
      unfold kbN
      rw [hk, e1]
      rw [stD_s]
      simp only [e2, if_pos hd]
    · rw [if_neg hd]
      simp only [if_neg hd] at hs
      rw [hs _ (by omega) (by simpa using ho) i, hset]
      unfold kbN
      rw [hk, e1]
      rw [stD_s]
      simp only [e2, if_neg hd]
theorem keepL_get {l : List Int} {r : DtRule} (h : KOk l r) (i : Nat) : (keepL l r)[i]? = if i < l.length then some (kbN l r (l.length - i)) else none := by
  rw [keepL_t (decB_t h)]
  have := kp_get l r l.length (List.replicate l.length false) (Nat.le_refl _) (by simp) i
  rw [Nat.sub_self] at this
  rw [show kp l r l.length (-1) 0 0 (List.replicate l.length false) = kp l r l.length (stD l 0).1 (stD l 0).2.1 (stD l 0).2.2 (List.replicate l.length false) from rfl, this]
  split
  · rfl
  · rw [List.getElem?_eq_none (by simp; omega)]
theorem keepL_length {l : List Int} {r : DtRule} (h : KOk l r) : (keepL l r).length = l.length := by
  rw [keepL_t (decB_t h), kp_len]; simp
theorem keepL_at {l : List Int} {r : DtRule} (h : KOk l r) (i : Nat) (hi : i < (keepL l r).length) : (keepL l r)[i] = kbN l r (l.length - i) := by
  have h1 := keepL_get h i
  have h2 := keepL_length h
  rw [if_pos (by omega), List.getElem?_eq_getElem hi] at h1
  exact Option.some.inj h1
theorem keepL_eq {l : List Int} {r : DtRule} (h : KOk l r) : keepL l r = ((List.range l.length).map fun n => kbN l r (n + 1)).reverse := by
  apply List.ext_getElem
  · rw [keepL_length h]; simp
  · intro i h1 h2
    rw [keepL_at h, List.getElem_reverse]
    simp only [List.getElem_map, List.getElem_range, List.length_map, List.length_range]
    congr 1
    have := keepL_length h
    omega
/-- How many of the first are true. -/
theorem kt_length (ks : List Bool) (l : List Int) (hl : ks.length = l.length) : ∀ i, i ≤ l.length → (kt ks l i).length = ((ks.take i).filter id).length
  | 0, _ => by simp [kt_0]
  | i + 1, hi => by
    have ih := kt_length ks l hl i (by omega)
    rw [List.take_succ_eq_append_getElem (by omega), List.filter_append, List.length_append]
    cases hk : ks[i]'(by omega) with
    | true => rw [kt_t ks l i (by omega) (by omega) hk, List.length_append, ih]; simp
    | false => rw [kt_f ks l i (by omega) (by omega) hk, ih]; simp
def cntN (l : List Int) (r : DtRule) : Nat → Nat
  | 0 => 0
  | n + 1 => cntN l r n + (if kbN l r (n + 1) = true then 1 else 0)
theorem cntN_s (l : List Int) (r : DtRule) (n : Nat) : cntN l r (n + 1) = cntN l r n + (if kbN l r (n + 1) = true then 1 else 0) := rfl
theorem cntN_eq (l : List Int) (r : DtRule) : ∀ n, (((List.range n).map fun n => kbN l r (n + 1)).filter id).length = cntN l r n
  | 0 => rfl
  | n + 1 => by
    rw [List.range_succ, List.map_append, List.filter_append, List.length_append, cntN_eq l r n]
    rw [cntN_s]
    simp only [List.map_cons, List.map_nil]
    cases kbN l r (n + 1) <;> simp
theorem kept_count {l : List Int} {r : DtRule} (h : KOk l r) : (keptL l r).length = cntN l r l.length := by
  unfold keptL
  have hl := keepL_length h
  rw [kt_length _ _ hl _ (by omega), List.take_of_length_le (by omega), keepL_eq h, List.filter_reverse, List.length_reverse, cntN_eq]
def cntB (l : List Int) (r : DtRule) : Nat → Nat
  | 0 => 0
  | n + 1 => cntB l r n + (if (stD l (n + 1)).2.1 ≤ r.fDays ∧ (stD l (n + 1)).2.2 ≤ r.fPerDay then 1 else 0)
theorem cntB_s (l : List Int) (r : DtRule) (n : Nat) : cntB l r (n + 1) = cntB l r n + (if (stD l (n + 1)).2.1 ≤ r.fDays ∧ (stD l (n + 1)).2.2 ≤ r.fPerDay then 1 else 0) := rfl
theorem cnt_le (l : List Int) (r : DtRule) (h0 : 0 ≤ r.fLast) : ∀ n, (cntN l r n : Int) ≤ (if (n : Int) ≤ r.fLast then (n : Int) else r.fLast) + cntB l r n
  | 0 => by unfold cntN cntB; split <;> omega
  | n + 1 => by
    have ih := cnt_le l r h0 n
    rw [cntN_s, cntB_s]
    unfold kbN kb
    simp only [Bool.or_eq_true, decide_eq_true_eq, Bool.and_eq_true]
    by_cases h1 : ((n + 1 : Nat) : Int) ≤ r.fLast
    · rw [if_pos (.inl h1), if_pos h1]
      rw [if_pos (by omega)] at ih
      split <;> omega
    · rw [if_neg h1]
      have : (if (n : Int) ≤ r.fLast then (n : Int) else r.fLast) = r.fLast := by split <;> omega
      rw [this] at ih
      by_cases h2 : (stD l (n + 1)).2.1 ≤ r.fDays ∧ (stD l (n + 1)).2.2 ≤ r.fPerDay
      · rw [if_pos (.inr h2), if_pos h2]; omega
      · rw [if_neg (by rintro (h | h); exact h1 h; exact h2 h), if_neg h2]; omega
theorem stD_pos (l : List Int) : ∀ n, 0 ≤ (stD l n).2.1 ∧ 0 ≤ (stD l n).2.2
  | 0 => by simp [stD]
  | n + 1 => by
    have := stD_pos l n
    rw [stD_s]
    split <;> refine ⟨?_, ?_⟩ <;> simp only <;> omega
theorem stD_pos1 (l : List Int) (hl : ∀ x ∈ l, 0 ≤ x) : ∀ n, n < l.length → 0 < (stD l (n + 1)).2.1
  | 0, h => by
    rw [stD_s]
    have h1 : 0 ≤ l.getD (l.length - 1 - 0) 0 := by
      rw [List.getD_eq_getElem?_getD, List.getElem?_eq_getElem (by omega)]
      exact hl _ (List.getElem_mem _)
    rw [if_neg (by simp only [stD]; omega)]
    simp [stD]
  | n + 1, h => by
    have ih := stD_pos1 l hl n (by omega)
    rw [stD_s]
    split
    · exact ih
    · simp only; omega
theorem cntB_le (l : List Int) (hl : ∀ x ∈ l, 0 ≤ x) (r : DtRule) (h1 : 0 ≤ r.fDays) (h2 : 0 ≤ r.fPerDay) : ∀ n, n < l.length → (cntB l r (n + 1) : Int) ≤ if (stD l (n + 1)).2.1 ≤ r.fDays then ((stD l (n + 1)).2.1 - 1) * r.fPerDay + (if (stD l (n + 1)).2.2 ≤ r.fPerDay then (stD l (n + 1)).2.2 else r.fPerDay) else r.fDays * r.fPerDay
  | 0, h => by
    have hp := stD_pos1 l hl 0 h
    have h3 : (stD l (0 + 1)).2 = (1, 1) := by
      rw [stD_s]
      have h1 : 0 ≤ l.getD (l.length - 1 - 0) 0 := by
        rw [List.getD_eq_getElem?_getD, List.getElem?_eq_getElem (by omega)]
        exact hl _ (List.getElem_mem _)
      rw [if_neg (by simp only [stD]; omega)]
      simp [stD]
    rw [cntB_s, h3]
    unfold cntB
    simp only
    split
    · rename_i hc; rw [if_pos hc.1, if_pos hc.2]; omega
    · rename_i hc
      split
      · split <;> omega
      · have := Int.mul_nonneg h1 h2; omega
  | n + 1, h => by
    have ih := cntB_le l hl r h1 h2 n (by omega)
    have hp := stD_pos1 l hl n (by omega)
    have hq := stD_pos l (n + 1)
    rw [cntB_s]
    generalize hg : (cntB l r (n + 1) : Int) = cb at ih
    have hcb : cntB l r (n + 1) = cb.toNat := by omega
    rw [hcb]
    have hstep : (stD l (n + 1 + 1)).2 = ((stD l (n + 1)).2.1, (stD l (n + 1)).2.2 + 1) ∨ (stD l (n + 1 + 1)).2 = ((stD l (n + 1)).2.1 + 1, 1) := by
      rw [stD_s]
      split
      · exact .inl rfl
      · exact .inr rfl
    generalize (stD l (n + 1)).2.1 = a at ih hp hq hstep
    generalize (stD l (n + 1)).2.2 = b at ih hq hstep
    have hcb0 : 0 ≤ cb := by omega
    rcases hstep with e | e
    · rw [e]
      simp only
      by_cases ha : a ≤ r.fDays
      · rw [if_pos ha] at ih ⊢
        by_cases hb : b + 1 ≤ r.fPerDay
        · rw [if_pos (by omega)] at ih
          rw [if_pos ⟨ha, hb⟩, if_pos hb]
          omega
        · rw [if_neg (by omega), if_neg hb]
          split at ih <;> omega
      · rw [if_neg ha] at ih ⊢
        rw [if_neg (by omega)]
        omega
    · rw [e]
      simp only
      have e2 : (a + 1 - 1) * r.fPerDay = (a - 1) * r.fPerDay + r.fPerDay := by rw [show a + 1 - 1 = (a - 1) + 1 by omega, Int.add_mul, Int.one_mul]
      by_cases ha : a + 1 ≤ r.fDays
      · rw [if_pos (by omega)] at ih
        rw [if_pos ha, e2]
        split at ih <;> split <;> split <;> omega
      · rw [if_neg (by omega), if_neg ha]
        by_cases ha2 : a ≤ r.fDays
        · rw [if_pos ha2] at ih
          have : a = r.fDays := by omega
          subst this
          have e3 : r.fDays * r.fPerDay = (r.fDays - 1) * r.fPerDay + r.fPerDay := by
            conv => lhs; rw [show r.fDays = (r.fDays - 1) + 1 by omega, Int.add_mul, Int.one_mul]
          split at ih <;> omega
        · rw [if_neg ha2] at ih; omega
theorem kept_le {l : List Int} {r : DtRule} (h : KOk l r) : ((keptL l r).length : Int) ≤ r.fLast + r.fDays * r.fPerDay := by
  rw [kept_count h]
  obtain ⟨g1, g2, ⟨g3, -⟩, ⟨g4, -⟩, ⟨g5, -⟩⟩ := h
  have h1 := cnt_le l r g3 l.length
  have hl : ∀ x ∈ l, 0 ≤ x := by
    intro x hx
    obtain ⟨i, hi⟩ := List.getElem?_of_mem hx
    exact (g1 i x hi).1
  have h2 : (cntB l r l.length : Int) ≤ r.fDays * r.fPerDay := by
    rcases Nat.eq_zero_or_pos l.length with h0 | h0
    · rw [h0]; unfold cntB; have := Int.mul_nonneg g4 g5; omega
    · have h3 := cntB_le l hl r g4 g5 (l.length - 1) (by omega)
      rw [show l.length - 1 + 1 = l.length by omega] at h3
      refine Int.le_trans h3 ?_
      have hp := stD_pos1 l hl (l.length - 1) (by omega)
      rw [show l.length - 1 + 1 = l.length by omega] at hp
      split
      · rename_i hc
        have : (stD l l.length).2.1 * r.fPerDay ≤ r.fDays * r.fPerDay := Int.mul_le_mul_of_nonneg_right hc g5
        have e : (stD l l.length).2.1 * r.fPerDay = ((stD l l.length).2.1 - 1) * r.fPerDay + r.fPerDay := by
          conv => lhs; rw [show (stD l l.length).2.1 = ((stD l l.length).2.1 - 1) + 1 by omega, Int.add_mul, Int.one_mul]
        split <;> omega
      · omega
  split at h1 <;> omega
theorem kb_more (l : List Int) (r : DtRule) (n : Nat) (h : kbN l r n = true) : kbN l { r with fLast := r.fLast + 1 } n = true := by
  unfold kbN kb at *
  simp only [Bool.or_eq_true, decide_eq_true_eq, Bool.and_eq_true] at h ⊢
  omega
theorem KOk_more {l : List Int} {r : DtRule} (h : KOk l r) (hl : r.fLast < 30) : KOk l { r with fLast := r.fLast + 1 } := by
  obtain ⟨g1, g2, ⟨g3, g6⟩, g4, g5⟩ := h
  exact ⟨g1, g2, ⟨by simp only; omega, by simp only; omega⟩, g4, g5⟩
end Go.Proofs.Ytmcekkllkfccjaa.Vs

import Derived.Test.YtcedomdpbgjbpaaSB7
open Go Go.Proofs Go.Proofs.Ytcedomdpbgjbpaa.Vs
namespace Go.Proofs.Ytcedomdpbgjbpaa.Vs
set_option linter.unusedVariables false
set_option linter.unusedSimpArgs false
set_option linter.unusedSectionVars false
set_option linter.unnecessarySimpa false
set_option linter.all false
set_option linter.unusedSimpArgs false
set_option linter.unusedVariables false
set_option maxRecDepth 100000
theorem snC_le : ∀ l : List DtCSnap, (∀ p ∈ l, p.fChunks.length ≤ 4 ∧ ∀ x ∈ p.fChunks, x.length = 8) → (snC l).length ≤ 4 * l.length ∧ ∀ x ∈ snC l, x.length = 8
  | [], _ => by simp [snC]
  | p :: l, h => by
    have h1 := snC_le l fun q hq => h q (by simp [hq])
    have h2 := h p (by simp)
    have e : snC (p :: l) = p.fChunks ++ snC l := by simp [snC]
    rw [e, List.length_append]
    refine ⟨by simp only [List.length_cons]; omega, fun x hx => ?_⟩
    rcases List.mem_append.1 hx with hx | hx
    · exact h2.2 x hx
    · exact h1.2 x hx
theorem seC_le : ∀ l : List DtCSet, (∀ s ∈ l, (snC s.fSnaps).length ≤ 20 ∧ ∀ x ∈ snC s.fSnaps, x.length = 8) → (seC l).length ≤ 20 * l.length ∧ ∀ x ∈ seC l, x.length = 8
  | [], _ => by simp [seC]
  | p :: l, h => by
    have h1 := seC_le l fun q hq => h q (by simp [hq])
    have h2 := h p (by simp)
    have e : seC (p :: l) = snC p.fSnaps ++ seC l := by simp [seC]
    rw [e, List.length_append]
    refine ⟨by simp only [List.length_cons]; omega, fun x hx => ?_⟩
    rcases List.mem_append.1 hx with hx | hx
    · exact h2.2 x hx
    · exact h1.2 x hx
theorem seC_cat (c : DtCatalog) (h : CatP c) : (seC c.fSets).length ≤ 100 ∧ ∀ x ∈ seC c.fSets, x.length = 8 := by
  have key := seC_le c.fSets fun s hs => by
    obtain ⟨i, hi, rfl⟩ := List.mem_iff_getElem.1 hs
    obtain ⟨⟨-, h5, hp⟩, -⟩ := h.2 i _ (List.getElem?_eq_getElem hi)
    have := snC_le c.fSets[i].fSnaps fun p hp' => by
      obtain ⟨k, hk, rfl⟩ := List.mem_iff_getElem.1 hp'
      obtain ⟨⟨-, -, -, h4, h8⟩, -⟩ := hp k _ (List.getElem?_eq_getElem hk)
      refine ⟨by omega, fun x hx => ?_⟩
      obtain ⟨j, hj, rfl⟩ := List.mem_iff_getElem.1 hx
      exact h8 j _ (List.getElem?_eq_getElem hj)
    exact ⟨by omega, this.2⟩
  have h5 := h.1
  exact ⟨by omega, key.2⟩
theorem sumZ_leS (m : Nat) : ∀ (l : List (List UInt8)), (∀ x ∈ l, x.length ≤ m) → sumZ lenZ l ≤ (l.length * m : Nat)
  | [], _ => by simp [sumZ]
  | x :: l, h => by
    have h1 := sumZ_leS m l fun y hy => h y (by simp [hy])
    have h2 := h x (by simp)
    rw [sumZ_cons, List.length_cons, Nat.add_mul]
    unfold lenZ at h1 ⊢
    omega
theorem allL_len (c : DtCatalog) : (allL c).length ≤ 100 ∧ ∀ x ∈ allL c, x.length = 8 := by
  by_cases h : CatP c
  · rw [allL_t h]
    have h1 := setS_len (seC c.fSets)
    have h2 := seC_cat c h
    exact ⟨by omega, fun x hx => h2.2 x ((setS_mem _ _).1 hx)⟩
  · rw [allL_f h]; simp
end Go.Proofs.Ytcedomdpbgjbpaa.Vs

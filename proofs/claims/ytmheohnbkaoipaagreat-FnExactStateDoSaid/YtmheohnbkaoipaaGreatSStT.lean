import Derived.Test.YtmheohnbkaoipaaGreatSStS
open Go Go.Proofs Go.Proofs.YtmheohnbkaoipaaGreat.Vs
namespace Go.Proofs.YtmheohnbkaoipaaGreat.Vs
set_option linter.all false
set_option linter.unusedSimpArgs false
set_option linter.unusedVariables false
/-! states in a row of commands -/
theorem catR_len (c : DtCatalog) (m : DtCmd) : (catR c m).length ≤ 200 := by
 by_cases h : CatP c
 ·by_cases hm : CmdP m
  ·have hsets : ∀ k (hk : k < c.fSets.length), SetP c.fSets[k] := fun k hk => (h.2 k _ (List.getElem?_eq_getElem hk)).1
   by_cases h0 : m.fKind = 0
   ·rw [(zpn h hm h0).2]; simp
   ·by_cases h1 : m.fKind = 1
    ·rw [(zpo h hm h1).2]; unfold creR; (repeat' split) <;> decide
    ·by_cases h7 : m.fKind = 7
     ·rw [(zpp h hm h7).2]
      have := zvk 8 (namL c.fSets) fun x hx => by
       obtain ⟨s, hs', rfl⟩ := List.mem_map.1 hx
       obtain ⟨k, hk, rfl⟩ := List.getElem_of_mem hs'
       exact (hsets k hk).1.2.1
      rw [zfl] at this
      have := h.1
      omega
     ·by_cases hf : findS c.fSets m.fSet < 0
      ·rw [(zpq h hm h0 h1 h7 hf).2]; decide
      ·obtain ⟨k, hkz⟩ := Int.eq_ofNat_of_zero_le (Int.not_lt.1 hf)
       have hk := zkt hkz
       rw [(cat_k h hm h0 h1 h7 hkz).2]
       by_cases h2 : m.fKind = 2
       ·rw [(set_2 h2).2]; decide
       ·by_cases h3 : m.fKind = 3
        ·rw [(zwz hk h3).2]; unfold comR; (repeat' split) <;> decide
        ·by_cases h4 : m.fKind = 4
         ·rw [(set_4 hk h4).2]; unfold tagR; split <;> decide
         ·by_cases h5 : m.fKind = 5
          ·rw [(set_5 hk h5).2]; simp [digN]
          ·rw [(set_6 hk h2 h3 h4 h5).2]
           have := zvk 17 (tldL c.fSets[k]) fun x hx => by
            obtain ⟨p, hp, rfl⟩ := List.mem_map.1 hx
            obtain ⟨j, hj, rfl⟩ := List.getElem_of_mem hp
            have h3 := ((hsets k hk).2.2 j _ (List.getElem?_eq_getElem hj)).1
            have ha : (c.fSets[k].fSnaps[j]).fName.length ≤ 8 := by grind [SnapP, Word]
            have hb : (c.fSets[k].fSnaps[j]).fTag.length ≤ 8 := by grind [SnapP, Word]
            simp only [List.length_append, List.length_cons]
            omega
           have h4 := (hsets k hk).2.1
           have h5 : (tldL c.fSets[k]).length = c.fSets[k].fSnaps.length := by simp [tldL]
           rw [h5] at this
           omega
  ·rw [(zpm h hm).2]; simp
 ·rw [(zpl h).2]; simp
def SaidW (x : DtSaid) : Prop := 1 ≤ x.fClient ∧ x.fClient ≤ 9 ∧ 1 ≤ x.fNo ∧ x.fNo ≤ 1000
theorem stateP_of {s : DtState} (h1 : CatP s.fCat) (h2 : ∀ x ∈ s.fSaid, SaidW x) (h3 : Cl s.fSaid) : StateP s := by
 refine ⟨h1, fun i x hx => ?_⟩
 obtain ⟨hi, rfl⟩ := List.getElem?_eq_some_iff.1 hx
 obtain ⟨a, b, c, d⟩ := h2 _ (List.getElem_mem hi)
 refine ⟨a, b, c, d, fun y h0 hy => ?_⟩
 obtain ⟨hj, rfl⟩ := List.getElem?_eq_some_iff.1 hy
 exact List.pairwise_iff_getElem.1 h3 (i - 1) i hj hi (by omega)
theorem zvu {s : DtState} (h : StateP s) : ∀ x ∈ s.fSaid, SaidW x := by
 intro x hx
 obtain ⟨i, hi, rfl⟩ := List.getElem_of_mem hx
 have := h.2 i _ (List.getElem?_eq_getElem hi)
 exact ⟨this.1, this.2.1, this.2.2.1, this.2.2.2.1⟩
theorem zpv (x : DtSaid) : ∀ (l : List DtSaid) (y : DtSaid), y ∈ putL x l → y = x ∨ y ∈ l
 | [], y, h => by rw [putL] at h; exact .inl (List.mem_singleton.1 h)
 | z :: l, y, h => by
  rw [putL] at h
  split at h
  ·rcases List.mem_cons.1 h with rfl | h
   ·exact .inr List.mem_cons_self
   ·exact (zpv x l y h).imp id (List.mem_cons_of_mem _)
  ·split at h
   ·rcases List.mem_cons.1 h with rfl | h
    ·exact .inl rfl
    ·exact .inr (List.mem_cons_of_mem _ h)
   ·rcases List.mem_cons.1 h with rfl | h
    ·exact .inl rfl
    ·exact .inr h
theorem putL_cl (x : DtSaid) : ∀ (l : List DtSaid), Cl l → Cl (putL x l)
 | [], _ => by rw [putL]; exact List.pairwise_singleton _ _
 | z :: l, h => by
  obtain ⟨h1, h2⟩ := List.pairwise_cons.1 h
  rw [putL]
  split
  ·refine List.pairwise_cons.2 ⟨fun y hy => ?_, putL_cl x l h2⟩
   rcases zpv x l y hy with rfl | hy
   ·assumption
   ·exact h1 y hy
  ·split
   ·refine List.pairwise_cons.2 ⟨fun y hy => ?_, h2⟩
    have := h1 y hy
    omega
   ·refine List.pairwise_cons.2 ⟨fun y hy => ?_, h⟩
    rcases List.mem_cons.1 hy with rfl | hy
    ·omega
    ·have := h1 y hy
     omega
theorem cl_len : ∀ (l : List DtSaid) (a : Int), Cl l → (∀ x ∈ l, a < x.fClient ∧ x.fClient ≤ 9) → a ≤ 9 → (l.length : Int) ≤ 9 - a
 | [], a, _, _, h => by simp; omega
 | z :: l, a, h, hb, ha => by
  obtain ⟨h1, h2⟩ := List.pairwise_cons.1 h
  have hz := hb z List.mem_cons_self
  have := cl_len l z.fClient h2 (fun x hx => ⟨h1 x hx, (hb x (List.mem_cons_of_mem _ hx)).2⟩) hz.2
  simp only [List.length_cons]
  omega
/-- A state that came out of commands. -/
def StI (s : DtState) : Prop := StateP s ∧ ∀ x ∈ s.fSaid, x.fText.length ≤ 200
def st0S : DtState := { fCat := { fSets := [] }, fSaid := [] }
theorem stN_P {s : DtState} (h : StateP s) {m : DtCmd} (hm : CmdP m) (h0 : ¬ m.fKind = 0) : StateP (stN s m) := by
 refine stateP_of (catP_step _ _) (fun x hx => ?_) (putL_cl _ _ (zkv h))
 rcases zpv _ _ _ hx with rfl | hx
 ·have := hm.resolve_left fun hh => h0 hh.1
  exact ⟨this.2.2.1, this.2.2.2.1, this.2.2.2.2.1, this.2.2.2.2.2.1⟩
 ·exact zvu h x hx
theorem stC_or (s : DtState) (m : DtCmd) (h : StateP s) : stC s m = s ∨ (CmdP m ∧ ¬ m.fKind = 0 ∧ stC s m = stN s m) := by
 by_cases hm : CmdP m ∧ ¬ m.fKind = 0
 ·cases hx : hitS s m with
  | none => exact .inr ⟨hm.1, hm.2, (st_no h hm.1 hm.2 hx).1⟩
  | some x =>
   have := (zl8 h hm.1 hm.2 hx).1
   split at this
   ·exact .inl this
   ·exact .inr ⟨hm.1, hm.2, this⟩
 ·exact .inl (st_m h hm).1
theorem stC_P {s : DtState} (h : StateP s) (m : DtCmd) : StateP (stC s m) := by
 rcases stC_or s m h with e | ⟨h1, h2, e⟩
 ·rw [e]; exact h
 ·rw [e]; exact stN_P h h1 h2
theorem said_len9 {s : DtState} (h : StateP s) : s.fSaid.length ≤ 9 := by
 have := cl_len s.fSaid 0 (zkv h) (fun x hx => by have := zvu h x hx; unfold SaidW at this; omega) (by omega)
 omega
noncomputable def splS (l : List DtCmd) : DtState × List (List UInt8) := l.foldl (fun x m => (stC x.1 m, x.2 ++ [stR x.1 m])) (st0S, [])
noncomputable def splC (l : List DtCmd) : DtState := (splS l).1
noncomputable def splR (l : List DtCmd) : List (List UInt8) := (splS l).2
end Go.Proofs.YtmheohnbkaoipaaGreat.Vs

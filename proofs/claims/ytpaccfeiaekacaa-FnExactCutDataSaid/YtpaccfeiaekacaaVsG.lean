import Derived.Test.YtpaccfeiaekacaaVsF
namespace Go.Proofs.Ytpaccfeiaekacaa.Vs
set_option linter.unusedVariables false
set_option linter.unusedSimpArgs false
set_option linter.unusedSectionVars false
set_option linter.unnecessarySimpa false
set_option linter.all false
open Go.RowKit
variable {P : Program}
theorem splice_get (l ys : List Value) (p : Nat) (h : p + ys.length ≤ l.length) (k : Nat) :
    (l.take p ++ ys ++ l.drop (p + ys.length))[k]? = if p ≤ k ∧ k < p + ys.length then ys[k - p]? else l[k]? := by
  by_cases h1 : k < p
  · rw [List.append_assoc, List.getElem?_append_left (by simp; omega), List.getElem?_take, if_pos h1, if_neg (by omega)]
  · by_cases h2 : k < p + ys.length
    · rw [List.append_assoc, List.getElem?_append_right (by simp; omega), List.getElem?_append_left (by simp; omega), if_pos (by omega)]
      congr 1; simp; omega
    · rw [List.getElem?_append_right (by simp; omega), if_neg (by omega), List.getElem?_drop]
      congr 1; simp; omega
theorem cell_row {w : World} {b : Nat} {arr : Array Value} {ty : TypeId} {fr : Nat × Nat} (h : w.heap[b]? = some (.cells arr ty fr)) (o : Nat) : w.cell? ⟨b, o, none⟩ = arr[o]? := by
  simp [World.cell?, h]
section
variable {C : Cx} {st : St} {a : Act} {w : World} {I : Nat → Prop} {β : Beta} {φ : Nat → List Nat}
/-- A store into an own row of elements. -/
theorem store_flat (hC : Conc C st a w I β φ) {n i f sz : Nat} {xs : List (List AV)} {new' : List AV} (hob : st.ob n = some (.flat sz xs)) (x y : Value) {t : TypeId} {inf : TypeInfo} (hi : P.info? t = some inf)
    (hx : Rv w I β (.eptr n i f) x) (hsz : y.cells.size = inf.size) (hl : new'.length = y.cells.toList.length) (hfit : f + new'.length ≤ sz) (hlt : i < xs.length)
    (hr : ∀ (j : Nat) c, new'[j]? = some c → ∃ v, y.cells.toList[j]? = some v ∧ RI w I c v) (h1 : ∀ z ∈ y.cells.toList, z.oneCell' = true) :
    ∃ w', (Instr.storeAt t x y).run P w = .ok () w' ∧ Conc C { st with ob := upd st.ob n (some (.flat sz (xs.set i (setCells (xs.getD i []) f new')))) } a w' I β φ := by
  obtain ⟨bl, hb, rfl⟩ := hx
  obtain ⟨bl', hb', rfl, h2, h3, h4⟩ := hC.ob _ _ hob
  rw [hb] at hb'; cases hb'
  rcases h4 with ⟨h4, -⟩ | ⟨hφ, ⟨arr, ty, hh, hsize⟩, hrc⟩
  · omega
  rw [h2, Nat.zero_add]
  have hbig : i * bl.sz + bl.sz ≤ bl.cap * bl.sz := by
    have : (i + 1) * bl.sz ≤ bl.cap * bl.sz := Nat.mul_le_mul_right _ (by omega)
    rwa [Nat.add_mul, Nat.one_mul] at this
  have hrun := run_storeCells_at P bl.b (i * bl.sz + f) ty y.cells.toList 0 arr w hh (by omega) h1
  have hnew := setRow_heap w bl.b arr (arr.toList.take (i * bl.sz + f + 0) ++ y.cells.toList ++ arr.toList.drop (i * bl.sz + f + 0 + y.cells.toList.length)).toArray ty (0, 0) hh
  refine ⟨_, ?_, hC.write (w' := w.setRow bl.b (arr.toList.take (i * bl.sz + f + 0) ++ y.cells.toList ++ arr.toList.drop (i * bl.sz + f + 0 + y.cells.toList.length)).toArray) _ (by rw [hob]; simp) (fun _ _ _ => hC.fnew n _ _ hob) (fun b hb hy => by have := hC.fnew n _ _ hob b hb; have := hC.ylt b hy; omega) ?_ ?_⟩
  · simp [Instr.storeAt, Instr.sureAddr, storeVar, sizeOf, typeInfo, hi, hsz, hrun]
  · exact evo_setRow _ _ _ _ (by rw [hφ]; simp)
  · refine ⟨bl, hb, rfl, h2, by simpa using h3, .inr ⟨hφ, ⟨_, ty, hnew, by simp; omega⟩, ?_⟩⟩
    have hev : ∀ b, I b → (w.setRow bl.b (arr.toList.take (i * bl.sz + f + 0) ++ y.cells.toList ++ arr.toList.drop (i * bl.sz + f + 0 + y.cells.toList.length)).toArray).heap[b]? = w.heap[b]? := fun b hb' => setRow_other w bl.b b _ (by rintro rfl; exact hC.nimm n _ (by rw [hφ]; simp) hb')
    rw [RIe_iff] at hrc ⊢
    have hspl : ∀ k, (w.setRow bl.b (arr.toList.take (i * bl.sz + f + 0) ++ y.cells.toList ++ arr.toList.drop (i * bl.sz + f + 0 + y.cells.toList.length)).toArray).cell? ⟨bl.b, k, none⟩ =
        if i * bl.sz + f ≤ k ∧ k < i * bl.sz + f + y.cells.toList.length then y.cells.toList[k - (i * bl.sz + f)]? else arr[k]? := by
      intro k
      rw [cell_row hnew, List.getElem?_toArray, splice_get _ _ _ (by simp only [Array.length_toList] at hl ⊢; omega)]
      simp only [Nat.zero_add, Nat.add_zero, Array.getElem?_toList]
    intro k z hz
    rw [List.getElem?_set] at hz
    by_cases hk : i = k
    · subst hk
      rw [if_pos rfl, if_pos hlt] at hz
      cases hz
      have hxi : xs[i]? = some xs[i] := List.getElem?_eq_getElem hlt
      obtain ⟨hl1, hr1⟩ := hrc i _ hxi
      rw [List.getD_eq_getElem?_getD, hxi, Option.getD_some]
      refine ⟨by rw [setCells_length _ _ _ (by omega)]; exact hl1, ?_⟩
      rw [RIc_iff] at hr1 ⊢
      intro j c hc
      rw [setCells_get _ _ _ (by omega)] at hc
      rw [hspl]
      split at hc
      · rename_i hj
        obtain ⟨v, hv, hrv⟩ := hr _ _ hc
        refine ⟨v, ?_, RI_mono (fun _ h => h) hev c v hrv⟩
        rw [if_pos (by omega), ← hv]
        congr 1; omega
      · rename_i hj
        obtain ⟨v, hv, hrv⟩ := hr1 j c hc
        refine ⟨v, ?_, RI_mono (fun _ h => h) hev c v hrv⟩
        rw [if_neg (by omega)]
        rwa [cell_row hh] at hv
    · rw [if_neg hk] at hz
      obtain ⟨hl1, hr1⟩ := hrc k z hz
      refine ⟨hl1, ?_⟩
      rw [RIc_iff] at hr1 ⊢
      intro j c hc
      obtain ⟨v, hv, hrv⟩ := hr1 j c hc
      refine ⟨v, ?_, RI_mono (fun _ h => h) hev c v hrv⟩
      have hj : j < bl.sz := by rw [← hl1]; exact (List.getElem?_eq_some_iff.1 hc).1
      rw [hspl, if_neg]
      · rwa [cell_row hh] at hv
      · rcases Nat.lt_or_gt_of_ne hk with hlt' | hlt'
        · have : (i + 1) * bl.sz ≤ k * bl.sz := Nat.mul_le_mul_right _ hlt'
          rw [Nat.add_mul, Nat.one_mul] at this
          omega
        · have : (k + 1) * bl.sz ≤ i * bl.sz := Nat.mul_le_mul_right _ hlt'
          rw [Nat.add_mul, Nat.one_mul] at this
          omega
theorem store_sound (hC : Conc C st a w I β φ) {t : TypeId} {p q v : AV} {x y : Value} {c : Prop} {u : Ups} (hx : Rv w I β p x) (hy : Rv w I β q y) (h : aStore P st t p q = some (c, v, u)) (hc : c) :
    v = .g undef ∧ ∃ w' I' φ', (Instr.storeAt t x y).run P w = .ok () w' ∧ Conc C { st with ob := updL st.ob u } a w' I' β φ' := by
  unfold aStore at h
  split at h
  · rename_i T new hT hnew
    obtain ⟨d, i, z, hd, hi, hz, rfl⟩ := ti_spec hT
    split at h
    · rename_i n off
      split at h
      · rename_i cs hob
        cases h
        obtain ⟨h1, h2, h3⟩ := hc
        obtain ⟨hv1, hv2⟩ := valCells_spec hnew hy h2
        obtain ⟨w', hr, hC'⟩ := store_cells hC hob x y hi hx h1 h3 hv1 hv2
        exact ⟨rfl, w', I, φ, hr, hC'⟩
      · cases h
    · rename_i n i' f
      split at h
      · rename_i sz xs hob
        split at h
        · rename_i pp new' hvw
          cases h
          obtain ⟨h0, h1, h2, h3, h4, h5⟩ := hc
          obtain ⟨hv1, hv2⟩ := valCells_spec hnew hy h2
          obtain ⟨I', φ', hI, hC', hl, hr⟩ := freezeView hC hvw h0 hv1
          have hob' : updL st.ob (frzU st (arrN new)) n = some (.flat sz xs) := by
            rw [frzU_other _ _ _ (by simpa using h5)]; exact hob
          have hlen := (Rv1s_get _ _ hv1).1
          obtain ⟨w', hr', hC''⟩ := store_flat hC' hob' x y hi (Rv_mono hI (fun _ _ => rfl) (fun _ _ h => h) _ _ hx) (by simp at h1 hlen ⊢; omega) hl (by omega) h4 hr hv2
          refine ⟨rfl, w', I', φ', hr', ?_⟩
          rw [updL_append]
          exact hC''
        · cases h
      · cases h
    · cases h
  · cases h
end
end Go.Proofs.Ytpaccfeiaekacaa.Vs

import Derived.Test.YtpaccfeiaekacaaVsH
namespace Go.Proofs.Ytpaccfeiaekacaa.Vs
set_option linter.unusedVariables false
set_option linter.unusedSimpArgs false
set_option linter.unusedSectionVars false
set_option linter.unnecessarySimpa false
set_option linter.all false
open Go.RowKit
variable {P : Program}
theorem repl_get {α : Type} (l : List α) : ∀ (n j : Nat), ((List.replicate n l).flatten)[j]? = if j < n * l.length then l[j % l.length]? else none
  | 0, j => by simp
  | n + 1, j => by
    rw [List.replicate_succ, List.flatten_cons]
    by_cases h : j < l.length
    · rw [List.getElem?_append_left h, if_pos (by rw [Nat.add_mul]; omega), Nat.mod_eq_of_lt h]
    · rw [List.getElem?_append_right (by omega), repl_get l n]
      have h1 : (j - l.length) % l.length = j % l.length := by rw [← Nat.mod_eq_sub_mod (by omega)]
      rw [h1, Nat.add_mul]
      by_cases h2 : j - l.length < n * l.length
      · rw [if_pos h2, if_pos (by omega)]
      · rw [if_neg h2, if_neg (by omega)]
theorem zeros_get (z : Array Value) (n j : Nat) (hj : j < n * z.size) : ((Array.range (n * z.size)).map (z[· % z.size]!))[j]? = z[j % z.size]? := by
  have hz : 0 < z.size := by
    rcases Nat.eq_zero_or_pos z.size with h | h
    · rw [h] at hj; simp at hj
    · exact h
  have hm : j % z.size < z.size := Nat.mod_lt _ hz
  simp [hj, hm]
theorem RIs_cv {w : World} {I : Nat → Prop} (v : Value) (h : v.oneCell' = true) : RI w I (cv v) v := by
  cases v <;> first | (simp [cv, RI, Value.oneCell']; done) | (simp [Value.oneCell'] at h)
theorem chunks_length (sz : Nat) : ∀ (n : Nat) (cs : List AV), (chunks sz n cs).length = n
  | 0, _ => rfl
  | n + 1, cs => by simp [chunks, chunks_length sz n]
theorem chunks_get (sz : Nat) : ∀ (n : Nat) (cs : List AV) (i : Nat), (chunks sz n cs)[i]? = if i < n then some ((cs.drop (i * sz)).take sz) else none
  | 0, cs, i => by simp [chunks]
  | n + 1, cs, 0 => by simp [chunks]
  | n + 1, cs, i + 1 => by
    rw [chunks, List.getElem?_cons_succ, chunks_get sz n]
    rw [List.drop_drop, show sz + i * sz = (i + 1) * sz by rw [Nat.add_mul]; omega]
    by_cases h : i < n
    · rw [if_pos h, if_pos (by omega)]
    · rw [if_neg h, if_neg (by omega)]
section
variable {C : Cx} {st : St} {a : Act} {w : World} {I : Nat → Prop} {β : Beta} {φ : Nat → List Nat}
/-- A new row of elements in a new block. -/
theorem newFlat (hC : Conc C st a w I β φ) {nm sz cap : Nat} {xs : List (List AV)} (hn : st.ob nm = none) (arr : Array Value) (e : TypeId) (hcap : xs.length ≤ cap) (hsz : cap * sz ≤ arr.size)
    (hx : ∀ (i : Nat) x, xs[i]? = some x → x.length = sz ∧ ∀ (j : Nat) c, x[j]? = some c → ∃ v, arr[i * sz + j]? = some v ∧ RI w I c v) :
    ∃ β' φ', Conc C { st with ob := upd st.ob nm (some (.flat sz xs)) } a (w.alloc (.cells arr e)) I β' φ' ∧ β' nm = some ⟨w.heap.size, 0, sz, cap⟩ := by
  refine ⟨_, _, hC.new hn (.cells arr e) (.flat sz xs) ⟨w.heap.size, 0, sz, cap⟩ fun I' hI => ?_, upd_same _ _ _⟩
  refine ⟨_, upd_same _ _ _, rfl, rfl, hcap, .inr ⟨rfl, ⟨arr, e, heap_alloc_new _ _, by simpa using hsz⟩, ?_⟩⟩
  rw [RIe_iff]
  intro i x hxi
  obtain ⟨h1, h2⟩ := hx i x hxi
  refine ⟨h1, ?_⟩
  rw [RIc_iff]
  intro j c hc
  obtain ⟨v, hv, hr⟩ := h2 j c hc
  refine ⟨v, ?_, RI_mono hI (fun b hb => heap_alloc_old _ _ (hC.immLt b hb)) c v hr⟩
  rw [cell_row (heap_alloc_new _ _), Nat.zero_add]
  exact hv
theorem buildSlice_sound (hC : Conc C st a w I β φ) {nm : Nat} {t : TypeId} {len : Nat} {ps : List (Nat × AV)} {qs : Array (Nat × Value)} {v : AV} {c : Prop} {u : Ups} (hq : RvParts w I β ps qs.toList)
    (h : aBuildSlice P st nm t len ps = some (c, v, u)) (hc : c) : Good P C st a w (Instr.buildSlice t len qs) v u := by
  unfold aBuildSlice at h
  split at h
  · rename_i T hT
    obtain ⟨d, i, z, hd, hi, hz, rfl⟩ := ti_spec hT
    simp only at h
    split at h
    · rename_i e hk
      cases d <;> simp only [tkOf, TK.slice.injEq, reduceCtorEq] at hk
      rw [hk] at hd
      split at h
      · rename_i E hE
        obtain ⟨d', i', z', hd', hi', hz', rfl⟩ := ti_spec hE
        simp only at h
        split at h
        · rename_i cs hcs
          split at h
          · rename_i p cs' hvw
            cases h
            obtain ⟨hp, hn, h24, hzs, hone⟩ := hc
            have hn' : st.ob nm = none := by simpa using hn
            have hzs' : z'.cells.size = i'.size := by simpa using hzs
            have hr0 : Rv1s w I β (List.replicate len (z'.cells.toList.map cv)).flatten ((Array.range (len * i'.size)).map (z'.cells[· % z'.cells.size]!)).toList := by
              refine Rv1s_mk _ _ (by simp [hzs']) fun j c x hc hx => ?_
              rw [repl_get] at hc
              split at hc
              · rename_i hj
                simp only [List.length_map, Array.length_toList] at hc hj
                rw [Array.getElem?_toList, ← hzs', zeros_get _ _ _ hj] at hx
                rw [List.getElem?_map, Array.getElem?_toList, hx] at hc
                cases hc
                cases x <;> first | rfl | simp [cv, Rv1, Rv0]
              · cases hc
            obtain ⟨A', hA, hr⟩ := fill_sound (w := w) (I := I) (β := β) (fun i x hx => hx) _ _ _ _ _ hcs hq hr0
            obtain ⟨I', φ', hI, hC', hl, hr'⟩ := freezeView hC hvw hp hr
            have hn2 : updL st.ob (frzU st (arrN cs)) nm = none := by
              cases hh : updL st.ob (frzU st (arrN cs)) nm with
              | none => rfl
              | some o =>
                by_cases hin : nm ∈ arrN cs
                · have : ∀ (ns : List Nat) (ob : Nat → Option OB), ob nm = none → updL ob (frzU st ns) nm = none := by
                    intro ns
                    induction ns with
                    | nil => intro ob h; exact h
                    | cons k ns ih =>
                      intro ob h
                      unfold frzU
                      split
                      · rename_i sz xs hk
                        rw [updL_cons]
                        refine ih _ ?_
                        by_cases hkn : nm = k
                        · subst hkn; rw [hn'] at hk; cases hk
                        · rw [upd_other _ _ hkn]; exact h
                      · exact ih _ h
                  rw [this _ _ hn'] at hh; cases hh
                · rw [frzU_other _ _ _ hin] at hh; rw [hn'] at hh; cases hh
            have hAsz : A'.size = len * i'.size := by
              have h1 := (Rv1s_get _ _ hr).1
              have h2 : cs.length = len * i'.size := by
                have : ∀ (ps : List (Nat × AV)) (cs cs' : List AV) (pl : Nat → Option (Nat × Nat)), fillA pl cs ps = some cs' → cs'.length = cs.length := by
                  intro ps
                  induction ps with
                  | nil => intro cs cs' pl h; cases h; rfl
                  | cons q ps ih =>
                    intro cs cs' pl h
                    unfold fillA at h
                    split at h
                    · split at h
                      · rename_i hh; rw [ih _ _ _ h]; simp; omega
                      · cases h
                    · cases h
                rw [this _ _ _ _ hcs]; simp [hzs']
              simp only [Array.length_toList] at h1; omega
            obtain ⟨β', φ'', hC'', hβ⟩ := newFlat (cap := len) (sz := i'.size) (xs := chunks i'.size len cs') hC' hn2 A' e (by rw [chunks_length]; omega) (by omega) (fun k x hx => by
              rw [chunks_get] at hx
              split at hx
              · rename_i hk
                cases hx
                have hb : k * i'.size + i'.size ≤ len * i'.size := by
                  have : (k + 1) * i'.size ≤ len * i'.size := Nat.mul_le_mul_right _ hk
                  rwa [Nat.add_mul, Nat.one_mul] at this
                refine ⟨by simp at hl ⊢; omega, fun j c hc => ?_⟩
                rw [List.getElem?_take] at hc
                split at hc
                · rw [List.getElem?_drop] at hc
                  obtain ⟨v, hv, hrv⟩ := hr' _ _ hc
                  exact ⟨v, by simpa using hv, hrv⟩
                · cases hc
              · cases hx)
            refine ⟨.slice (some ⟨w.heap.size, 0, none⟩) len len, w.alloc (.cells A' e), I', β', φ'', ?_, ⟨_, hβ, by simp, .inl (by simp)⟩, by rw [updL_append]; exact hC''⟩
            by_cases hpos : len * i'.size = 0
            · have hA0 : (Array.range (len * i'.size)).map (z'.cells[· % z'.cells.size]!) = #[] := by rw [hpos]; simp
              rw [hA0] at hA
              simp [Instr.buildSlice, run_underlying hd, sizeOf, typeInfo, hi', hpos, newRow]
              rw [show Array.map (fun _ => (default : Value)) (Array.range 0) = #[] from by simp, hA]
              simp
            · exact run_buildSlice w t e len qs A' i' z' hd hi' hz' (by omega) hpos hA
          · cases h
        · cases h
      · cases h
    · cases h
  · cases h
theorem makeSlice_sound (hC : Conc C st a w I β φ) {nm : Nat} {t : TypeId} {l c' v : AV} {x y : Value} {c : Prop} {u : Ups} (hx : Rv w I β l x) (hy : Rv w I β c' y)
    (h : aMakeSlice P nm st t l c' = some (c, v, u)) (hc : c) : Good P C st a w (Instr.makeSlice t x y) v u := by
  unfold aMakeSlice at h
  split at h
  · rename_i T n m hT
    obtain ⟨d, i, z, hd, hi, hz, rfl⟩ := ti_spec hT
    simp only at h
    split at h
    · rename_i e hk
      cases d <;> simp only [tkOf, TK.slice.injEq, reduceCtorEq] at hk
      rw [hk] at hd
      split at h
      · rename_i E hE
        obtain ⟨d', i', z', hd', hi', hz', rfl⟩ := ti_spec hE
        cases h
        obtain ⟨hn, h0, h1, h2, h3, hzs, hone0⟩ := hc
        have hn' : st.ob nm = none := by simpa using hn
        have hzs' : z'.cells.size = i'.size := by simpa using hzs
        cases hx; cases hy
        have hone : ∀ v ∈ z'.cells.toList, v.oneCell' = true := by
          intro v hv
          have := List.all_eq_true.1 hone0 (cv v) (List.mem_map_of_mem hv)
          cases v <;> first | rfl | (simpa [cv, isOne, Value.oneCell'] using this)
        obtain ⟨β', φ', hC', hβ⟩ := newFlat (cap := m.toNat) (sz := i'.size) (xs := List.replicate n.toNat (z'.cells.toList.map cv)) hC hn' ((Array.range (m.toNat * i'.size)).map (z'.cells[· % z'.cells.size]!)) e (by simp; omega) (by simp)
          (fun k x hx => by
            rw [List.getElem?_replicate] at hx
            split at hx
            · rename_i hk
              cases hx
              refine ⟨by simp [hzs'], fun j c hc => ?_⟩
              rw [List.getElem?_map] at hc
              cases hj : z'.cells.toList[j]? with
              | none => simp [hj] at hc
              | some v =>
                rw [hj] at hc; cases hc
                have hjl : j < z'.cells.size := by have := (List.getElem?_eq_some_iff.1 hj).1; simpa using this
                refine ⟨v, ?_, RIs_cv v (hone v (List.mem_of_getElem? hj))⟩
                have hb : k * i'.size + i'.size ≤ m.toNat * i'.size := by
                  have : (k + 1) * i'.size ≤ m.toNat * i'.size := Nat.mul_le_mul_right _ (by omega)
                  rwa [Nat.add_mul, Nat.one_mul] at this
                rw [← hzs', zeros_get _ _ _ (by rw [hzs']; omega), ← hj, Array.getElem?_toList]
                congr 1
                rw [Nat.mul_comm, Nat.mul_add_mod, Nat.mod_eq_of_lt hjl]
            · cases hx)
        refine ⟨.slice (some ⟨w.heap.size, 0, none⟩) n.toNat m.toNat, _, I, β', φ', ?_, ⟨_, hβ, by simp; omega, .inl (by simp)⟩, hC'⟩
        have w1 : IntKind.i64.wrap n = n := IntWalk.i64_in _ (by omega)
        have w2 : IntKind.i64.wrap m = m := IntWalk.i64_in _ (by omega)
        have h3' : (i'.bytes : Int) * m ≤ 2 ^ 48 := h3
        have w3 : ¬ (n < 0) := by omega
        have w4 : ¬ (m < n) := by omega
        have w5 : ¬ (m < 0) := by omega
        have w6 : ¬ ((281474976710656 : Int) < (i'.bytes : Int) * m) := by
          have : (2 : Int) ^ 48 = 281474976710656 := by decide
          omega
        simp [Instr.makeSlice, run_underlying hd, typeInfo, sizeOf, zeroValue, hi', hz', asInt, asIntOf, w1, w2, w3, w4, w5, w6, askRoom]
        by_cases hpos : m.toNat * i'.size = 0
        · simp only [hpos, newRow, if_true]
          simp
          rw [show Array.map (fun _ => (default : Value)) (Array.range 0) = #[] from by simp, show Array.map (fun x => z'.cells[x % z'.cells.size]!) (Array.range 0) = #[] from by simp]
        · simp [hpos, newRow]
      · cases h
    · cases h
  · cases h
end
end Go.Proofs.Ytpaccfeiaekacaa.Vs

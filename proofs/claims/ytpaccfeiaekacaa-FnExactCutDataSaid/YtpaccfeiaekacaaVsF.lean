import Derived.Test.YtpaccfeiaekacaaVsE
namespace Go.Proofs.Ytpaccfeiaekacaa.Vs
set_option linter.unusedVariables false
set_option linter.unusedSimpArgs false
set_option linter.unusedSectionVars false
set_option linter.unnecessarySimpa false
set_option linter.all false
open Go.RowKit
variable {P : Program}
section
variable {C : Cx} {st : St} {a : Act} {w : World} {I : Nat → Prop} {β : Beta} {φ : Nat → List Nat}
/-- Rows are frozen, one behind the other. -/
theorem frz_sound : ∀ (ns : List Nat) (st' : St) (I : Nat → Prop) (φ : Nat → List Nat), (∀ n, st'.ob n = st.ob n ∨ ∃ sz xs, st.ob n = some (.flat sz xs) ∧ st'.ob n = some (.shared sz xs)) →
    Conc C st' a w I β φ → ∃ I' φ', (∀ b, I b → I' b) ∧ Conc C { st' with ob := updL st'.ob (frzU st ns) } a w I' β φ'
  | [], st', I, φ, _, hC => ⟨I, φ, fun _ h => h, hC⟩
  | n :: ns, st', I, φ, hs, hC => by
    unfold frzU
    split
    · rename_i sz xs hob
      rw [updL_cons]
      have hs' : ∀ m, upd st'.ob n (some (OB.shared sz xs)) m = st.ob m ∨ ∃ s y, st.ob m = some (.flat s y) ∧ upd st'.ob n (some (OB.shared sz xs)) m = some (.shared s y) := by
        intro m
        by_cases hm : m = n
        · subst hm; exact .inr ⟨sz, xs, hob, upd_same _ _ _⟩
        · rw [upd_other _ _ hm]; exact hs m
      rcases hs n with h | ⟨sz', xs', h, h'⟩
      · obtain ⟨I1, hI1, hC1⟩ := hC.freeze (h.trans hob)
        obtain ⟨I2, φ2, hI2, hC2⟩ := frz_sound ns { st' with ob := upd st'.ob n (some (OB.shared sz xs)) } I1 _ hs' hC1
        exact ⟨I2, φ2, fun b hb => hI2 b (hI1 b hb), hC2⟩
      · rw [hob] at h; cases h
        have : upd st'.ob n (some (OB.shared sz xs)) = st'.ob := by
          funext m
          by_cases hm : m = n
          · subst hm; rw [upd_same, h']
          · rw [upd_other _ _ hm]
        rw [this]
        exact frz_sound ns st' I φ hs hC
    · exact frz_sound ns st' I φ hs hC
/-- What is frozen, is frozen. -/
theorem frzU_get : ∀ (ns : List Nat) (ob : Nat → Option OB) (n sz : Nat) (xs : List (List AV)), n ∈ ns → (st.ob n = some (.flat sz xs) ∨ st.ob n = some (.shared sz xs)) → (ob n = st.ob n ∨ ob n = some (.shared sz xs)) →
    updL ob (frzU st ns) n = some (.shared sz xs)
  | [], _, _, _, _, h, _, _ => by simp at h
  | m :: ns, ob, n, sz, xs, hn, h, hob => by
    by_cases hin : n ∈ ns
    · unfold frzU
      split
      · rename_i sz' xs' h'
        rw [updL_cons]
        refine frzU_get ns _ n sz xs hin h ?_
        by_cases hm : n = m
        · subst hm
          rw [upd_same]
          rcases h with h | h
          · rw [h] at h'; cases h'; exact .inr rfl
          · rw [h] at h'; cases h'
        · rw [upd_other _ _ hm]; exact hob
      · exact frzU_get ns _ n sz xs hin h hob
    · have hm : n = m := by simpa [hin] using hn
      subst hm
      have keep : ∀ (ns : List Nat) (ob : Nat → Option OB), n ∉ ns → updL ob (frzU st ns) n = ob n := by
        intro ns
        induction ns with
        | nil => intro ob _; rfl
        | cons k ns ih =>
          intro ob hk
          simp at hk
          unfold frzU
          split
          · rw [updL_cons, ih _ hk.2, upd_other _ _ hk.1]
          · exact ih _ hk.2
      unfold frzU
      rcases h with h | h
      · rw [h]; simp only; rw [updL_cons, keep ns _ hin, upd_same]
      · rw [h]; simp only
        rw [keep ns _ hin]
        rcases hob with hob | hob
        · rw [hob, h]
        · exact hob
theorem frzU_other : ∀ (ns : List Nat) (ob : Nat → Option OB) (n : Nat), n ∉ ns → updL ob (frzU st ns) n = ob n
  | [], _, _, _ => rfl
  | k :: ns, ob, n, hk => by
    simp at hk
    unfold frzU
    split
    · rw [updL_cons, frzU_other ns _ n hk.2, upd_other _ _ hk.1]
    · exact frzU_other ns _ n hk.2
theorem mem_arrN : ∀ (cs : List AV) (n off len : Nat), AV.arr n off len ∈ cs → n ∈ arrN cs
  | [], _, _, _, h => by simp at h
  | c :: cs, n, off, len, h => by
    rcases List.mem_cons.1 h with h | h
    · subst h; simp [arrN]
    · have := mem_arrN cs n off len h
      cases c <;> simp [arrN, this]
/-- A cell as whoever only reads sees it: where its row is frozen. -/
theorem viewCell_spec {st2 : St} (hC : Conc C st2 a w I β φ) {c c' : AV} {p : Prop} (h : viewCell st c = some (p, c')) (hp : p) {v : Value} (hv : Rv1 w I β c v)
    (hst : ∀ n off len, c = .arr n off len → ∀ sz xs, (st.ob n = some (.flat sz xs) ∨ st.ob n = some (.shared sz xs)) → st2.ob n = some (.shared sz xs)) : RI w I c' v := by
  unfold viewCell at h
  split at h
  · cases h; cases hv; rw [RI]; exact ⟨rfl, hp⟩
  · cases h; cases hv; rw [RI]
  · cases h; exact hv
  · rename_i n off len
    have key : ∀ sz xs, (st.ob n = some (.flat sz xs) ∨ st.ob n = some (.shared sz xs)) → off + len ≤ xs.length → RI w I (.sl sz ((xs.drop off).take len)) v := by
      intro sz xs ho hle
      obtain ⟨bl, hb, hle2, hx⟩ := hv
      obtain ⟨bl', hb', h1, h2, h3, -, h4⟩ := hC.ob _ _ (hst n off len rfl sz xs ho)
      rw [hb] at hb'; cases hb'
      have hlen : ((xs.drop off).take len).length = len := by simp; omega
      rw [RI, hlen]
      rcases hx with rfl | ⟨h5, a', rfl⟩
      · refine ⟨_, _, rfl, by omega, ?_⟩
        rcases h4 with h4 | ⟨h4, h6⟩
        · left; apply List.length_eq_zero_iff.1; omega
        · refine .inr ⟨bl.b, _, rfl, h4, ?_⟩
          subst h1
          have := RIe_take _ _ len (RIe_drop _ _ off h6)
          rw [h2]
          exact this
      · have : len = 0 := by omega
        subst this
        exact ⟨_, _, rfl, Nat.le_refl _, .inl (by simp)⟩
    split at h
    · rename_i sz xs ho
      cases h
      exact key _ _ (.inl ho) hp
    · rename_i sz xs ho
      cases h
      exact key _ _ (.inr ho) hp
    · cases h
  · cases h
theorem viewCells_spec {st2 : St} (hC : Conc C st2 a w I β φ) : ∀ {cs cs' : List AV} {p : Prop}, viewCells st cs = some (p, cs') → p → ∀ {vs : List Value}, Rv1s w I β cs vs →
    (∀ n off len, AV.arr n off len ∈ cs → ∀ sz xs, (st.ob n = some (.flat sz xs) ∨ st.ob n = some (.shared sz xs)) → st2.ob n = some (.shared sz xs)) →
    cs'.length = vs.length ∧ ∀ (j : Nat) c, cs'[j]? = some c → ∃ v, vs[j]? = some v ∧ RI w I c v
  | [], _, _, h, _, _, hv, _ => by cases h; cases hv; simp
  | c :: cs, cs', p, h, hp, vs, hv, hst => by
    unfold viewCells at h
    split at h
    · rename_i p1 c1 q1 cs1 h1 h2
      cases h
      obtain ⟨v, vs', rfl, hv1, hv2⟩ := hv
      obtain ⟨ih1, ih2⟩ := viewCells_spec hC h2 hp.2 hv2 (fun n off len hm => hst n off len (by simp [hm]))
      have h0 := viewCell_spec hC h1 hp.1 hv1 (fun n off len hm => hst n off len (by simp [hm]))
      refine ⟨by simp [ih1], fun j x hx => ?_⟩
      cases j with
      | zero => simp at hx; subst hx; exact ⟨v, rfl, h0⟩
      | succ j => simpa using ih2 j x (by simpa using hx)
    · cases h
/-- Freeze what cells name, and see them frozen. -/
theorem freezeView (hC : Conc C st a w I β φ) {cs cs' : List AV} {p : Prop} (h : viewCells st cs = some (p, cs')) (hp : p) {vs : List Value} (hv : Rv1s w I β cs vs) :
    ∃ I' φ', (∀ b, I b → I' b) ∧ Conc C { st with ob := updL st.ob (frzU st (arrN cs)) } a w I' β φ' ∧
      cs'.length = vs.length ∧ ∀ (j : Nat) c, cs'[j]? = some c → ∃ v, vs[j]? = some v ∧ RI w I' c v := by
  obtain ⟨I', φ', hI, hC'⟩ := frz_sound (st := st) (arrN cs) st I φ (fun n => .inl rfl) hC
  refine ⟨I', φ', hI, hC', ?_⟩
  have hv' : Rv1s w I' β cs vs := Rv1s_mono hI (fun _ _ => rfl) (fun _ _ h => h) _ _ hv
  exact viewCells_spec hC' h hp hv' (fun n off len hm sz xs ho => frzU_get _ _ _ _ _ (mem_arrN _ _ _ _ hm) ho (.inl rfl))
end
end Go.Proofs.Ytpaccfeiaekacaa.Vs

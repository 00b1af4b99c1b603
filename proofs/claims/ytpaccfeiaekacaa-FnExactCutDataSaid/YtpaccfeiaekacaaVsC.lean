import Derived.Test.YtpaccfeiaekacaaVsB
namespace Go.Proofs.Ytpaccfeiaekacaa.Vs
set_option linter.unusedVariables false
set_option linter.unusedSimpArgs false
set_option linter.unusedSectionVars false
set_option linter.unnecessarySimpa false
set_option linter.all false
variable {P : Program}
theorem RIe_get {w : World} {I : Nat → Prop} {b sz : Nat} : ∀ (xs : List (List AV)) (o i : Nat) (x : List AV), RIe w I b sz o xs → xs[i]? = some x → x.length = sz ∧ RIc w I b (o + i * sz) x
  | [], _, _, _, _, h => by simp at h
  | y :: ys, o, 0, x, h, hx => by
    rw [RIe] at h
    simp only [List.getElem?_cons_zero, Option.some.injEq] at hx
    subst hx
    simpa using ⟨h.1, h.2.1⟩
  | y :: ys, o, i + 1, x, h, hx => by
    rw [RIe] at h
    have := RIe_get ys (o + sz) i x h.2.2 (by simpa using hx)
    rwa [show o + sz + i * sz = o + (i + 1) * sz by rw [Nat.add_mul]; omega] at this
theorem RIe_take {w : World} {I : Nat → Prop} {b sz : Nat} : ∀ (xs : List (List AV)) (o n : Nat), RIe w I b sz o xs → RIe w I b sz o (xs.take n)
  | [], _, _, _ => by simp [RIe]
  | y :: ys, o, 0, _ => by simp [RIe]
  | y :: ys, o, n + 1, h => by
    rw [RIe] at h
    rw [List.take_succ_cons, RIe]
    exact ⟨h.1, h.2.1, RIe_take ys (o + sz) n h.2.2⟩
theorem RIe_drop {w : World} {I : Nat → Prop} {b sz : Nat} : ∀ (xs : List (List AV)) (o n : Nat), RIe w I b sz o xs → RIe w I b sz (o + n * sz) (xs.drop n)
  | [], _, _, _ => by simp [RIe]
  | y :: ys, o, 0, h => by simpa using h
  | y :: ys, o, n + 1, h => by
    rw [RIe] at h
    have := RIe_drop ys (o + sz) n h.2.2
    rwa [show o + sz + n * sz = o + (n + 1) * sz by rw [Nat.add_mul]; omega] at this
theorem RIe_append {w : World} {I : Nat → Prop} {b sz : Nat} : ∀ (xs ys : List (List AV)) (o : Nat), RIe w I b sz o xs → RIe w I b sz (o + xs.length * sz) ys → RIe w I b sz o (xs ++ ys)
  | [], ys, o, _, h => by simpa using h
  | x :: xs, ys, o, h, h' => by
    rw [RIe] at h
    rw [List.cons_append, RIe]
    refine ⟨h.1, h.2.1, RIe_append xs ys (o + sz) h.2.2 ?_⟩
    rwa [List.length_cons, show o + (xs.length + 1) * sz = o + sz + xs.length * sz by rw [Nat.add_mul]; omega] at h'
theorem RI_Rv1 {w : World} {I : Nat → Prop} {β : Beta} : ∀ (c : AV) (v : Value), RI w I c v → Rv1 w I β c v
  | .g _, _, h => by rw [RI] at h; exact h.1
  | .s _, _, h => by rw [RI] at h; exact h
  | .sl _ _, _, h => h
  | .agg .., _, h | .ot .., _, h | .arr .., _, h | .ptr .., _, h | .eptr .., _, h | .ip .., _, h | .fn .., _, h | .tup .., _, h | .undef, _, h => by simp [RI] at h
theorem RIc_Rcs {w : World} {I : Nat → Prop} {β : Beta} {b : Nat} : ∀ (cs : List AV) (o : Nat), RIc w I b o cs → Rcs w I β b o cs
  | [], _, _ => trivial
  | c :: cs, o, h => by
    rw [RIc] at h
    obtain ⟨⟨v, h1, h2⟩, h3⟩ := h
    exact ⟨⟨v, h1, RI_Rv1 c v h2⟩, RIc_Rcs cs (o + 1) h3⟩
theorem RJc_Rcs {w : World} {I : Nat → Prop} {β : Beta} {b : Nat} : ∀ (cs : List AV) (o : Nat), RJc w I β b o cs → Rcs w I β b o cs
  | [], _, _ => trivial
  | c :: cs, o, ⟨⟨v, h1, h2, _⟩, h3⟩ => ⟨⟨v, h1, h2⟩, RJc_Rcs cs (o + 1) h3⟩
theorem RJe_get {w : World} {I : Nat → Prop} {β : Beta} {b sz : Nat} : ∀ (xs : List (List AV)) (o i : Nat) (x : List AV), RJe w I β b sz o xs → xs[i]? = some x → x.length = sz ∧ RJc w I β b (o + i * sz) x
  | [], _, _, _, _, h => by simp at h
  | y :: ys, o, 0, x, h, hx => by
    simp only [List.getElem?_cons_zero, Option.some.injEq] at hx
    subst hx
    simpa using ⟨h.1, h.2.1⟩
  | y :: ys, o, i + 1, x, h, hx => by
    have := RJe_get ys (o + sz) i x h.2.2 (by simpa using hx)
    rwa [show o + sz + i * sz = o + (i + 1) * sz by rw [Nat.add_mul]; omega] at this
theorem RJe_take {w : World} {I : Nat → Prop} {β : Beta} {b sz : Nat} : ∀ (xs : List (List AV)) (o n : Nat), RJe w I β b sz o xs → RJe w I β b sz o (xs.take n)
  | [], _, _, _ => by simp [RJe]
  | y :: ys, o, 0, _ => by simp [RJe]
  | y :: ys, o, n + 1, h => ⟨h.1, h.2.1, RJe_take ys (o + sz) n h.2.2⟩
theorem RJe_drop {w : World} {I : Nat → Prop} {β : Beta} {b sz : Nat} : ∀ (xs : List (List AV)) (o n : Nat), RJe w I β b sz o xs → RJe w I β b sz (o + n * sz) (xs.drop n)
  | [], _, _, _ => by simp [RJe]
  | y :: ys, o, 0, h => by simpa using h
  | y :: ys, o, n + 1, h => by
    have := RJe_drop ys (o + sz) n h.2.2
    rwa [show o + sz + n * sz = o + (n + 1) * sz by rw [Nat.add_mul]; omega] at this
theorem RJe_append {w : World} {I : Nat → Prop} {β : Beta} {b sz : Nat} : ∀ (xs ys : List (List AV)) (o : Nat), RJe w I β b sz o xs → RJe w I β b sz (o + xs.length * sz) ys → RJe w I β b sz o (xs ++ ys)
  | [], ys, o, _, h => by simpa using h
  | x :: xs, ys, o, h, h' => by
    refine ⟨h.1, h.2.1, RJe_append xs ys (o + sz) h.2.2 ?_⟩
    rwa [List.length_cons, show o + (xs.length + 1) * sz = o + sz + xs.length * sz by rw [Nat.add_mul]; omega] at h'
theorem RIc_drop {w : World} {I : Nat → Prop} {b : Nat} : ∀ (cs : List AV) (o n : Nat), RIc w I b o cs → RIc w I b (o + n) (cs.drop n)
  | [], _, _, _ => by simp [RIc]
  | c :: cs, o, 0, h => by simpa using h
  | c :: cs, o, n + 1, h => by
    rw [RIc] at h
    have := RIc_drop cs (o + 1) n h.2
    rwa [show o + 1 + n = o + (n + 1) by omega] at this
theorem Rcs_drop {w : World} {I : Nat → Prop} {β : Beta} {b : Nat} : ∀ (cs : List AV) (o n : Nat), Rcs w I β b o cs → Rcs w I β b (o + n) (cs.drop n)
  | [], _, _, _ => by simp [Rcs]
  | c :: cs, o, 0, h => by simpa using h
  | c :: cs, o, n + 1, h => by
    have := Rcs_drop cs (o + 1) n h.2
    rwa [show o + 1 + n = o + (n + 1) by omega] at this
theorem Rcs_take {w : World} {I : Nat → Prop} {β : Beta} {b : Nat} : ∀ (cs : List AV) (o n : Nat), Rcs w I β b o cs → Rcs w I β b o (cs.take n)
  | [], _, _, _ => by simp [Rcs]
  | c :: cs, o, 0, h => trivial
  | c :: cs, o, n + 1, h => ⟨h.1, Rcs_take cs (o + 1) n h.2⟩
/-- The values that stand in a row's cells. -/
theorem Rcs_vals {w : World} {I : Nat → Prop} {β : Beta} {b : Nat} : ∀ (cs : List AV) (o : Nat), Rcs w I β b o cs →
    ∃ vs : List Value, vs.length = cs.length ∧ Rv1s w I β cs vs ∧ ∀ j v, vs[j]? = some v → w.cell? ⟨b, o + j, none⟩ = some v
  | [], _, _ => ⟨[], rfl, rfl, by simp⟩
  | c :: cs, o, h => by
    obtain ⟨⟨v, hv, hr⟩, h2⟩ := h
    obtain ⟨vs, hl, hr2, hc⟩ := Rcs_vals cs (o + 1) h2
    refine ⟨v :: vs, by simp [hl], ⟨v, vs, rfl, hr, hr2⟩, ?_⟩
    intro j x hx
    cases j with
    | zero => simp at hx; subst hx; simpa using hv
    | succ j => have := hc j x (by simpa using hx); rwa [show o + 1 + j = o + (j + 1) by omega] at this
def scal0 : AV → Bool
  | .g _ => true
  | .s _ => true
  | _ => false
/-- Rows of plain values. -/
def scR (xs : List (List AV)) : Bool := xs.all (·.all scal0)
theorem scR_map {α : Type} (f : α → List AV) (h : ∀ x, (f x).all scal0 = true) (l : List α) : scR (l.map f) = true := by
  unfold scR
  rw [List.all_eq_true]
  intro x hx
  obtain ⟨a, -, rfl⟩ := List.mem_map.1 hx
  exact h a
theorem scR_nil : scR [] = true := rfl
theorem RI_one1 {w : World} {I : Nat → Prop} : ∀ (c : AV) (v : Value), RI w I c v → v.oneCell' = true
  | .g v, _, h => by rw [RI] at h; rw [h.1]; exact h.2
  | .s _, _, h => by rw [RI] at h; rw [h]; rfl
  | .sl _ _, _, h => by rw [RI] at h; obtain ⟨a, cap, rfl, -⟩ := h; rfl
  | .agg .., _, h | .ot .., _, h | .arr .., _, h | .ptr .., _, h | .eptr .., _, h | .ip .., _, h | .fn .., _, h | .tup .., _, h | .undef, _, h => by simp [RI] at h
theorem RIc_RJc {w : World} {I : Nat → Prop} {β : Beta} {b : Nat} : ∀ (cs : List AV) (o : Nat), RIc w I b o cs → RJc w I β b o cs
  | [], _, _ => trivial
  | c :: cs, o, h => by
    rw [RIc] at h
    obtain ⟨⟨v, h1, h2⟩, h3⟩ := h
    exact ⟨⟨v, h1, RI_Rv1 c v h2, RI_one1 c v h2⟩, RIc_RJc cs (o + 1) h3⟩
theorem RIe_RJe {w : World} {I : Nat → Prop} {β : Beta} {b sz : Nat} : ∀ (xs : List (List AV)) (o : Nat), RIe w I b sz o xs → RJe w I β b sz o xs
  | [], _, _ => trivial
  | x :: xs, o, h => by
    rw [RIe] at h
    exact ⟨h.1, RIc_RJc x o h.2.1, RIe_RJe xs (o + sz) h.2.2⟩
theorem scal0_RW {w : World} {I : Nat → Prop} {β : Beta} : ∀ (c : AV) (v : Value), scal0 c = true → Rv1 w I β c v → v.oneCell' = true → RW w c v []
  | .g v, _, _, h, h1 => by rw [RW]; cases h; exact ⟨rfl, h1, rfl⟩
  | .s _, _, _, h, _ => by rw [RW]; exact ⟨h, rfl⟩
  | .agg .., _, h, _, _ | .ot .., _, h, _, _ | .arr .., _, h, _, _ | .ptr .., _, h, _, _ | .eptr .., _, h, _, _ | .ip .., _, h, _, _ | .fn .., _, h, _, _ | .tup .., _, h, _, _ | .undef, _, h, _, _ | .sl .., _, h, _, _ => by simp [scal0] at h
theorem scal0_Rv {w : World} {I : Nat → Prop} {β : Beta} : ∀ (c : AV) (v : Value) (F : List Nat), scal0 c = true → RW w c v F → Rv1 w I β c v ∧ v.oneCell' = true ∧ F = []
  | .g v, _, _, _, h => by rw [RW] at h; exact ⟨h.1, by rw [h.1]; exact h.2.1, h.2.2⟩
  | .s _, _, _, _, h => by rw [RW] at h; exact ⟨h.1, by rw [h.1]; rfl, h.2⟩
  | .agg .., _, _, h, _ | .ot .., _, _, h, _ | .arr .., _, _, h, _ | .ptr .., _, _, h, _ | .eptr .., _, _, h, _ | .ip .., _, _, h, _ | .fn .., _, _, h, _ | .tup .., _, _, h, _ | .undef, _, _, h, _ | .sl .., _, _, h, _ => by simp [scal0] at h
theorem RJc_RWc {w : World} {I : Nat → Prop} {β : Beta} {b : Nat} : ∀ (cs : List AV) (o : Nat), cs.all scal0 = true → RJc w I β b o cs → RWc w b o cs []
  | [], _, _, _ => by simp [RWc]
  | c :: cs, o, hs, ⟨⟨v, h1, h2, h3⟩, h4⟩ => by
    simp only [List.all_cons, Bool.and_eq_true] at hs
    rw [RWc]
    exact ⟨[], [], rfl, ⟨v, h1, scal0_RW c v hs.1 h2 h3⟩, RJc_RWc cs (o + 1) hs.2 h4⟩
theorem RJe_RWe {w : World} {I : Nat → Prop} {β : Beta} {b sz : Nat} : ∀ (xs : List (List AV)) (o : Nat), xs.all (·.all scal0) = true → RJe w I β b sz o xs → RWe w b sz o xs []
  | [], _, _, _ => by simp [RWe]
  | x :: xs, o, hs, h => by
    simp only [List.all_cons, Bool.and_eq_true] at hs
    rw [RWe]
    exact ⟨[], [], rfl, h.1, RJc_RWc x o hs.1 h.2.1, RJe_RWe xs (o + sz) hs.2 h.2.2⟩
theorem RWc_RJc {w : World} {I : Nat → Prop} {β : Beta} {b : Nat} : ∀ (cs : List AV) (o : Nat) (F : List Nat), cs.all scal0 = true → RWc w b o cs F → RJc w I β b o cs ∧ F = []
  | [], _, F, _, h => by rw [RWc] at h; exact ⟨trivial, h⟩
  | c :: cs, o, F, hs, h => by
    simp only [List.all_cons, Bool.and_eq_true] at hs
    rw [RWc] at h
    obtain ⟨F1, F2, rfl, ⟨v, h1, h2⟩, h3⟩ := h
    obtain ⟨g1, g2, rfl⟩ := scal0_Rv (I := I) (β := β) c v F1 hs.1 h2
    obtain ⟨g3, rfl⟩ := RWc_RJc (I := I) (β := β) cs (o + 1) F2 hs.2 h3
    exact ⟨⟨⟨v, h1, g1, g2⟩, g3⟩, rfl⟩
theorem RWe_RJe {w : World} {I : Nat → Prop} {β : Beta} {b sz : Nat} : ∀ (xs : List (List AV)) (o : Nat) (F : List Nat), xs.all (·.all scal0) = true → RWe w b sz o xs F → RJe w I β b sz o xs ∧ F = []
  | [], _, F, _, h => by rw [RWe] at h; exact ⟨trivial, h⟩
  | x :: xs, o, F, hs, h => by
    simp only [List.all_cons, Bool.and_eq_true] at hs
    rw [RWe] at h
    obtain ⟨F1, F2, rfl, h1, h2, h3⟩ := h
    obtain ⟨g1, rfl⟩ := RWc_RJc (I := I) (β := β) x o F1 hs.1 h2
    obtain ⟨g2, rfl⟩ := RWe_RJe (I := I) (β := β) xs (o + sz) F2 hs.2 h3
    exact ⟨⟨h1, g1, g2⟩, rfl⟩
theorem scal0_Rv1 {w w' : World} {I I' : Nat → Prop} {β β' : Beta} : ∀ (c : AV) (v : Value), scal0 c = true → Rv1 w I β c v → Rv1 w' I' β' c v
  | .g _, _, _, h => h
  | .s _, _, _, h => h
  | .agg .., _, h, _ | .ot .., _, h, _ | .arr .., _, h, _ | .ptr .., _, h, _ | .eptr .., _, h, _ | .ip .., _, h, _ | .fn .., _, h, _ | .tup .., _, h, _ | .undef, _, h, _ | .sl .., _, h, _ => by simp [scal0] at h
theorem RJe_scal {w : World} {I I' : Nat → Prop} {β β' : Beta} {b sz : Nat} (xs : List (List AV)) (o : Nat) (hs : xs.all (·.all scal0) = true) (h : RJe w I β b sz o xs) : RJe w I' β' b sz o xs :=
  (RWe_RJe xs o [] hs (RJe_RWe xs o hs h)).1
theorem Rv1_Rv {w : World} {I : Nat → Prop} {β : Beta} : ∀ (c : AV) (v : Value), Rv1 w I β c v → Rv w I β c v
  | .g _, _, h => h | .s _, _, h => h | .sl _ _, _, h => h | .arr .., _, h => h | .ptr .., _, h => h | .eptr .., _, h => h | .ip .., _, h => h | .fn .., _, h => h
  | .undef, _, _ => trivial
  | .agg .., _, h | .ot .., _, h | .tup .., _, h => h.elim
theorem Rv2_Rv {w : World} {I : Nat → Prop} {β : Beta} : ∀ (c : AV) (v : Value), Rv2 w I β c v → Rv w I β c v
  | .g _, _, h => h | .s _, _, h => h | .sl _ _, _, h => h | .arr .., _, h => h | .ptr .., _, h => h | .eptr .., _, h => h | .ip .., _, h => h | .fn .., _, h => h
  | .undef, _, _ => trivial
  | .agg .., _, h => h
  | .ot .., _, h | .tup .., _, h => h.elim
theorem Rv_cv {w : World} {I : Nat → Prop} {β : Beta} (v : Value) : Rv w I β (cv v) v := by
  cases v <;> first | rfl | (simp [cv, Rv, Rv2, Rv1, Rv0])
theorem Rv_eval {w : World} {I : Nat → Prop} {β : Beta} {st : St} {a : Act} (h : ∀ t, Rv w I β (st.env t) (a.tmps.getD t undef)) : ∀ x, Rv w I β (ev st x) (a.eval x)
  | .tmp t => h t
  | .const v => Rv_cv v
  | .func f => ⟨[], [], rfl, rfl, rfl⟩
  | .global _ => trivial
theorem ti_spec {t : TypeId} {T : TI} (h : ti P t = some T) : ∃ d i z, P.underlying t = some d ∧ P.info? t = some i ∧ i.zero = some z ∧ T = { agg := aggOf d, size := i.size, bytes := i.bytes, zero := z.cells.toList.map cv, kind := tkOf d } := by
  unfold ti at h
  split at h
  · rename_i d i hd hi
    split at h
    · rename_i z hz
      exact ⟨d, i, z, hd, hi, hz, by simpa using h.symm⟩
    · cases h
  · cases h
section
variable {C : Cx} {st : St} {a : Act} {w : World} {I : Nat → Prop} {β : Beta} {φ : Nat → List Nat}
/-- An address whose cells are known. -/
theorem cellsAt_spec (hC : Conc C st a w I β φ) {av : AV} {x : Value} {cs : List AV} (hx : Rv w I β av x) (h : cellsAt st av = some cs) :
    ∃ b o, x = .pointer (some ⟨b, o, none⟩) ∧ Rcs w I β b o cs := by
  unfold cellsAt at h
  split at h
  · rename_i n off
    split at h
    · rename_i cs' hob
      obtain ⟨bl, hb, rfl⟩ := hx
      obtain ⟨bl', hb', -, -, hr⟩ := hC.ob _ _ hob
      rw [hb] at hb'; cases hb'
      cases h
      exact ⟨_, _, rfl, Rcs_drop _ _ _ hr⟩
    · rename_i cs' hob
      obtain ⟨bl, hb, rfl⟩ := hx
      obtain ⟨bl', hb', -, hr⟩ := hC.ob _ _ hob
      rw [hb] at hb'; cases hb'
      cases h
      exact ⟨_, _, rfl, Rcs_drop _ _ _ hr⟩
    · cases h
  · rename_i n i f
    obtain ⟨bl, hb, rfl⟩ := hx
    have key : ∀ xs : List (List AV), (xs = [] ∨ RIe w I bl.b bl.sz bl.o xs) → Rcs w I β bl.b (bl.o + (i * bl.sz + f)) ((xs.getD i []).drop f) := by
      intro xs hr
      rw [List.getD_eq_getElem?_getD]
      cases hxi : xs[i]? with
      | none => simp [Rcs]
      | some y =>
        rcases hr with rfl | hr
        · simp at hxi
        · have := RIc_Rcs (β := β) _ _ (RIc_drop _ _ f (RIe_get xs _ i y hr hxi).2)
          simpa [Nat.add_assoc] using this
    split at h
    · rename_i sz xs hob
      obtain ⟨bl', hb', h1, h2, h3, h4⟩ := hC.ob _ _ hob
      rw [hb] at hb'; cases hb'
      cases h
      subst h1
      refine ⟨_, _, rfl, key xs ?_⟩
      rcases h4 with h4 | ⟨-, -, h4⟩
      · exact .inl (List.length_eq_zero_iff.1 (by omega))
      · exact .inr (by rw [h2]; exact h4)
    · rename_i sz xs hob
      obtain ⟨bl', hb', h1, h2, h3, -, h4⟩ := hC.ob _ _ hob
      rw [hb] at hb'; cases hb'
      cases h
      subst h1
      refine ⟨_, _, rfl, key xs ?_⟩
      rcases h4 with h4 | ⟨-, h4⟩
      · exact .inl (List.length_eq_zero_iff.1 (by omega))
      · exact .inr (by rw [h2]; exact h4)
    · rename_i sz xs hob
      obtain ⟨bl', hb', h1, h2, h3, h4⟩ := hC.ob _ _ hob
      rw [hb] at hb'; cases hb'
      cases h
      subst h1
      refine ⟨_, _, rfl, ?_⟩
      rw [List.getD_eq_getElem?_getD]
      cases hxi : xs[i]? with
      | none => simp [Rcs]
      | some y =>
        rcases h4 with ⟨h4, -⟩ | ⟨-, -, h4⟩
        · have := (List.getElem?_eq_some_iff.1 hxi).1; omega
        · have := Rcs_drop _ _ f (RJc_Rcs (β := β) _ _ (RJe_get xs _ i y h4 hxi).2)
          rw [h2]
          simpa [Nat.add_assoc] using this
    · cases h
  · obtain ⟨b, o, rfl, -, hr⟩ := hx
    cases h
    exact ⟨b, o, rfl, RIc_Rcs _ _ hr⟩
  · cases h
theorem aggOf_run {t : TypeId} {d : TypeDesc} (h : P.underlying t = some d) : (isAgg t).run P w = .ok (aggOf d) w := by
  simp only [isAgg, Sem.run_bind, run_underlying h, Result.andThen]
  cases d <;> rfl
theorem load_sound (hC : Conc C st a w I β φ) {t : TypeId} {av v : AV} {x : Value} {c : Prop} {u : Ups} (hx : Rv w I β av x) (h : aLoad P st t av = some (c, v, u)) (hc : c) :
    u = [] ∧ ∃ y, (Instr.loadAt t x).run P w = .ok y w ∧ Rv w I β v y := by
  unfold aLoad at h
  split at h
  · rename_i T cs hT hcs
    obtain ⟨d, i, z, hd, hi, hz, rfl⟩ := ti_spec hT
    obtain ⟨b, o, rfl, hr⟩ := cellsAt_spec hC hx hcs
    simp only at h
    split at h
    · rename_i hag
      cases h
      refine ⟨rfl, ?_⟩
      obtain ⟨vs, hl, hvs, hcell⟩ := Rcs_vals _ _ (Rcs_take _ _ i.size hr)
      have hlen : vs.length = i.size := by rw [hl, List.length_take]; omega
      refine ⟨.agg ⟨vs⟩, ?_, ⟨vs, rfl, hvs⟩⟩
      have hload := run_loadCells_list (P := P) w ⟨b, o, none⟩ vs (fun j v hv => by rw [Addr.add_lit]; exact hcell j v hv)
      rw [hlen] at hload
      simp [Instr.loadAt, Instr.sureAddr, loadVar, aggOf_run hd, hag, sizeOf, typeInfo, hi, hload]
    · rename_i hag
      split at h
      · rename_i c0 rest
        cases h
        refine ⟨rfl, ?_⟩
        obtain ⟨⟨y, hy, hry⟩, -⟩ := hr
        refine ⟨y, ?_, Rv1_Rv _ _ hry⟩
        have hag' : aggOf d = false := by simpa using hag
        simp [Instr.loadAt, Instr.sureAddr, loadVar, aggOf_run hd, hag', hy]
      · cases h
  · cases h
end
end Go.Proofs.Ytpaccfeiaekacaa.Vs

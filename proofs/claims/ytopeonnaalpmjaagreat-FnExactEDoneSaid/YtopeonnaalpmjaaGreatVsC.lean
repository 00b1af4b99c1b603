import Derived.Test.YtopeonnaalpmjaaGreatVsB
namespace Go.Proofs.YtopeonnaalpmjaaGreat.Vs
set_option linter.unusedVariables false
set_option linter.unusedSimpArgs false
set_option linter.unusedSectionVars false
set_option linter.unnecessarySimpa false
set_option linter.all false
variable {P : Program}
theorem RIe_get {w : World} {I : Nat → Prop} {b sz : Nat} : ∀ (xs : List (List AV)) (o i : Nat) (x : List AV), RIe w I b sz o xs → xs[i]? = some x → x.length = sz ∧ RIc w I b (o + i * sz) x
  | [], _, _, _, _, h => by simp at h
  | y :: ys, o, 0, x, h, hx => by
    rw [RIe] at h
    simp only [List.getElem?_cons_zero, Option.some.injEq] at hx
    subst hx
    simpa using ⟨h.1, h.2.1⟩
  | y :: ys, o, i + 1, x, h, hx => by
    rw [RIe] at h
    have := RIe_get ys (o + sz) i x h.2.2 (by simpa using hx)
    rwa [show o + sz + i * sz = o + (i + 1) * sz by rw [Nat.add_mul]; omega] at this
theorem RIe_take {w : World} {I : Nat → Prop} {b sz : Nat} : ∀ (xs : List (List AV)) (o n : Nat), RIe w I b sz o xs → RIe w I b sz o (xs.take n)
  | [], _, _, _ => by simp [RIe]
  | y :: ys, o, 0, _ => by simp [RIe]
  | y :: ys, o, n + 1, h => by
    rw [RIe] at h
    rw [List.take_succ_cons, RIe]
    exact ⟨h.1, h.2.1, RIe_take ys (o + sz) n h.2.2⟩
theorem RIe_drop {w : World} {I : Nat → Prop} {b sz : Nat} : ∀ (xs : List (List AV)) (o n : Nat), RIe w I b sz o xs → RIe w I b sz (o + n * sz) (xs.drop n)
  | [], _, _, _ => by simp [RIe]
  | y :: ys, o, 0, h => by simpa using h
  | y :: ys, o, n + 1, h => by
    rw [RIe] at h
    have := RIe_drop ys (o + sz) n h.2.2
    rwa [show o + sz + n * sz = o + (n + 1) * sz by rw [Nat.add_mul]; omega] at this
theorem RIe_append {w : World} {I : Nat → Prop} {b sz : Nat} : ∀ (xs ys : List (List AV)) (o : Nat), RIe w I b sz o xs → RIe w I b sz (o + xs.length * sz) ys → RIe w I b sz o (xs ++ ys)
  | [], ys, o, _, h => by simpa using h
  | x :: xs, ys, o, h, h' => by
    rw [RIe] at h
    rw [List.cons_append, RIe]
    refine ⟨h.1, h.2.1, RIe_append xs ys (o + sz) h.2.2 ?_⟩
    rwa [List.length_cons, show o + (xs.length + 1) * sz = o + sz + xs.length * sz by rw [Nat.add_mul]; omega] at h'
theorem RI_Rv1 {w : World} {I : Nat → Prop} {β : Beta} : ∀ (c : AV) (v : Value), RI w I c v → Rv1 w I β c v
  | .g _, _, h => by rw [RI] at h; exact h.1
  | .s _, _, h => by rw [RI] at h; exact h
  | .sl _ _, _, h => h
  | .agg .., _, h | .ot .., _, h | .arr .., _, h | .ptr .., _, h | .eptr .., _, h | .ip .., _, h | .fn .., _, h | .tup .., _, h | .undef, _, h => by simp [RI] at h
theorem RIc_Rcs {w : World} {I : Nat → Prop} {β : Beta} {b : Nat} : ∀ (cs : List AV) (o : Nat), RIc w I b o cs → Rcs w I β b o cs
  | [], _, _ => trivial
  | c :: cs, o, h => by
    rw [RIc] at h
    obtain ⟨⟨v, h1, h2⟩, h3⟩ := h
    exact ⟨⟨v, h1, RI_Rv1 c v h2⟩, RIc_Rcs cs (o + 1) h3⟩
theorem RIc_drop {w : World} {I : Nat → Prop} {b : Nat} : ∀ (cs : List AV) (o n : Nat), RIc w I b o cs → RIc w I b (o + n) (cs.drop n)
  | [], _, _, _ => by simp [RIc]
  | c :: cs, o, 0, h => by simpa using h
  | c :: cs, o, n + 1, h => by
    rw [RIc] at h
    have := RIc_drop cs (o + 1) n h.2
    rwa [show o + 1 + n = o + (n + 1) by omega] at this
theorem Rcs_drop {w : World} {I : Nat → Prop} {β : Beta} {b : Nat} : ∀ (cs : List AV) (o n : Nat), Rcs w I β b o cs → Rcs w I β b (o + n) (cs.drop n)
  | [], _, _, _ => by simp [Rcs]
  | c :: cs, o, 0, h => by simpa using h
  | c :: cs, o, n + 1, h => by
    have := Rcs_drop cs (o + 1) n h.2
    rwa [show o + 1 + n = o + (n + 1) by omega] at this
theorem Rcs_take {w : World} {I : Nat → Prop} {β : Beta} {b : Nat} : ∀ (cs : List AV) (o n : Nat), Rcs w I β b o cs → Rcs w I β b o (cs.take n)
  | [], _, _, _ => by simp [Rcs]
  | c :: cs, o, 0, h => trivial
  | c :: cs, o, n + 1, h => ⟨h.1, Rcs_take cs (o + 1) n h.2⟩
/-- The values that stand in a row's cells. -/
theorem Rcs_vals {w : World} {I : Nat → Prop} {β : Beta} {b : Nat} : ∀ (cs : List AV) (o : Nat), Rcs w I β b o cs →
    ∃ vs : List Value, vs.length = cs.length ∧ Rv1s w I β cs vs ∧ ∀ j v, vs[j]? = some v → w.cell? ⟨b, o + j, none⟩ = some v
  | [], _, _ => ⟨[], rfl, rfl, by simp⟩
  | c :: cs, o, h => by
    obtain ⟨⟨v, hv, hr⟩, h2⟩ := h
    obtain ⟨vs, hl, hr2, hc⟩ := Rcs_vals cs (o + 1) h2
    refine ⟨v :: vs, by simp [hl], ⟨v, vs, rfl, hr, hr2⟩, ?_⟩
    intro j x hx
    cases j with
    | zero => simp at hx; subst hx; simpa using hv
    | succ j => have := hc j x (by simpa using hx); rwa [show o + 1 + j = o + (j + 1) by omega] at this
theorem Rv1_Rv {w : World} {I : Nat → Prop} {β : Beta} : ∀ (c : AV) (v : Value), Rv1 w I β c v → Rv w I β c v
  | .g _, _, h => h | .s _, _, h => h | .sl _ _, _, h => h | .arr .., _, h => h | .ptr .., _, h => h | .eptr .., _, h => h | .ip .., _, h => h | .fn .., _, h => h
  | .undef, _, _ => trivial
  | .agg .., _, h | .ot .., _, h | .tup .., _, h => h.elim
theorem Rv2_Rv {w : World} {I : Nat → Prop} {β : Beta} : ∀ (c : AV) (v : Value), Rv2 w I β c v → Rv w I β c v
  | .g _, _, h => h | .s _, _, h => h | .sl _ _, _, h => h | .arr .., _, h => h | .ptr .., _, h => h | .eptr .., _, h => h | .ip .., _, h => h | .fn .., _, h => h
  | .undef, _, _ => trivial
  | .agg .., _, h => h
  | .ot .., _, h | .tup .., _, h => h.elim
theorem Rv_cv {w : World} {I : Nat → Prop} {β : Beta} (v : Value) : Rv w I β (cv v) v := by
  cases v <;> first | rfl | (simp [cv, Rv, Rv2, Rv1, Rv0])
theorem Rv_eval {w : World} {I : Nat → Prop} {β : Beta} {st : St} {a : Act} (h : ∀ t, Rv w I β (st.env t) (a.tmps.getD t undef)) : ∀ x, Rv w I β (ev st x) (a.eval x)
  | .tmp t => h t
  | .const v => Rv_cv v
  | .func f => ⟨[], [], rfl, rfl, rfl⟩
  | .global _ => trivial
theorem ti_spec {t : TypeId} {T : TI} (h : ti P t = some T) : ∃ d i z, P.underlying t = some d ∧ P.info? t = some i ∧ i.zero = some z ∧ T = { agg := aggOf d, size := i.size, bytes := i.bytes, zero := z.cells.toList.map cv, kind := tkOf d } := by
  unfold ti at h
  split at h
  · rename_i d i hd hi
    split at h
    · rename_i z hz
      exact ⟨d, i, z, hd, hi, hz, by simpa using h.symm⟩
    · cases h
  · cases h
section
variable {C : Cx} {st : St} {a : Act} {w : World} {I : Nat → Prop} {β : Beta} {φ : Nat → List Nat}
/-- An address whose cells are known. -/
theorem cellsAt_spec (hC : Conc C st a w I β φ) {av : AV} {x : Value} {cs : List AV} (hx : Rv w I β av x) (h : cellsAt st av = some cs) :
    ∃ b o, x = .pointer (some ⟨b, o, none⟩) ∧ Rcs w I β b o cs := by
  unfold cellsAt at h
  split at h
  · rename_i n off
    split at h
    · rename_i cs' hob
      obtain ⟨bl, hb, rfl⟩ := hx
      obtain ⟨bl', hb', -, -, hr⟩ := hC.ob _ _ hob
      rw [hb] at hb'; cases hb'
      cases h
      exact ⟨_, _, rfl, Rcs_drop _ _ _ hr⟩
    · rename_i cs' hob
      obtain ⟨bl, hb, rfl⟩ := hx
      obtain ⟨bl', hb', -, hr⟩ := hC.ob _ _ hob
      rw [hb] at hb'; cases hb'
      cases h
      exact ⟨_, _, rfl, Rcs_drop _ _ _ hr⟩
    · cases h
  · rename_i n i f
    obtain ⟨bl, hb, rfl⟩ := hx
    have key : ∀ xs : List (List AV), (xs = [] ∨ RIe w I bl.b bl.sz bl.o xs) → Rcs w I β bl.b (bl.o + (i * bl.sz + f)) ((xs.getD i []).drop f) := by
      intro xs hr
      rw [List.getD_eq_getElem?_getD]
      cases hxi : xs[i]? with
      | none => simp [Rcs]
      | some y =>
        rcases hr with rfl | hr
        · simp at hxi
        · have := RIc_Rcs (β := β) _ _ (RIc_drop _ _ f (RIe_get xs _ i y hr hxi).2)
          simpa [Nat.add_assoc] using this
    split at h
    · rename_i sz xs hob
      obtain ⟨bl', hb', h1, h2, h3, h4⟩ := hC.ob _ _ hob
      rw [hb] at hb'; cases hb'
      cases h
      subst h1
      refine ⟨_, _, rfl, key xs ?_⟩
      rcases h4 with h4 | ⟨-, -, h4⟩
      · exact .inl (List.length_eq_zero_iff.1 (by omega))
      · exact .inr (by rw [h2]; exact h4)
    · rename_i sz xs hob
      obtain ⟨bl', hb', h1, h2, h3, -, h4⟩ := hC.ob _ _ hob
      rw [hb] at hb'; cases hb'
      cases h
      subst h1
      refine ⟨_, _, rfl, key xs ?_⟩
      rcases h4 with h4 | ⟨-, h4⟩
      · exact .inl (List.length_eq_zero_iff.1 (by omega))
      · exact .inr (by rw [h2]; exact h4)
    · cases h
  · obtain ⟨b, o, rfl, -, hr⟩ := hx
    cases h
    exact ⟨b, o, rfl, RIc_Rcs _ _ hr⟩
  · cases h
theorem aggOf_run {t : TypeId} {d : TypeDesc} (h : P.underlying t = some d) : (isAgg t).run P w = .ok (aggOf d) w := by
  simp only [isAgg, Sem.run_bind, run_underlying h, Result.andThen]
  cases d <;> rfl
theorem load_sound (hC : Conc C st a w I β φ) {t : TypeId} {av v : AV} {x : Value} {c : Prop} {u : Ups} (hx : Rv w I β av x) (h : aLoad P st t av = some (c, v, u)) (hc : c) :
    u = [] ∧ ∃ y, (Instr.loadAt t x).run P w = .ok y w ∧ Rv w I β v y := by
  unfold aLoad at h
  split at h
  · rename_i T cs hT hcs
    obtain ⟨d, i, z, hd, hi, hz, rfl⟩ := ti_spec hT
    obtain ⟨b, o, rfl, hr⟩ := cellsAt_spec hC hx hcs
    simp only at h
    split at h
    · rename_i hag
      cases h
      refine ⟨rfl, ?_⟩
      obtain ⟨vs, hl, hvs, hcell⟩ := Rcs_vals _ _ (Rcs_take _ _ i.size hr)
      have hlen : vs.length = i.size := by rw [hl, List.length_take]; omega
      refine ⟨.agg ⟨vs⟩, ?_, ⟨vs, rfl, hvs⟩⟩
      have hload := run_loadCells_list (P := P) w ⟨b, o, none⟩ vs (fun j v hv => by rw [Addr.add_lit]; exact hcell j v hv)
      rw [hlen] at hload
      simp [Instr.loadAt, Instr.sureAddr, loadVar, aggOf_run hd, hag, sizeOf, typeInfo, hi, hload]
    · rename_i hag
      split at h
      · rename_i c0 rest
        cases h
        refine ⟨rfl, ?_⟩
        obtain ⟨⟨y, hy, hry⟩, -⟩ := hr
        refine ⟨y, ?_, Rv1_Rv _ _ hry⟩
        have hag' : aggOf d = false := by simpa using hag
        simp [Instr.loadAt, Instr.sureAddr, loadVar, aggOf_run hd, hag', hy]
      · cases h
  · cases h
end
end Go.Proofs.YtopeonnaalpmjaaGreat.Vs

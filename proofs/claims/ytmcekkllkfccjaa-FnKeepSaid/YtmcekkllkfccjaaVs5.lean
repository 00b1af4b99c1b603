import Derived.Test.YtmcekkllkfccjaaVs4
section
namespace Go.Proofs.Ytmcekkllkfccjaa.Vs
set_option linter.unusedVariables false
set_option linter.unusedSimpArgs false
set_option linter.unusedSectionVars false
set_option linter.unnecessarySimpa false
set_option linter.all false
open Go.RowKit
variable {P : Program}
/-! ### Rows whose rows are their own -/
theorem RWc_app {w : World} {b : Nat} : ∀ (A B : List AV) (o : Nat) (F : List Nat), RWc w b o (A ++ B) F ↔ ∃ F1 F2, F = F1 ++ F2 ∧ RWc w b o A F1 ∧ RWc w b (o + A.length) B F2
  | [], B, o, F => by
    simp only [List.nil_append, List.length_nil, Nat.add_zero]
    constructor
    · intro h; exact ⟨[], F, rfl, by simp [RWc], h⟩
    · rintro ⟨F1, F2, rfl, h1, h2⟩
      rw [RWc] at h1; subst h1; exact h2
  | c :: A, B, o, F => by
    rw [List.cons_append, RWc]
    constructor
    · rintro ⟨F1, F2, rfl, h1, h2⟩
      obtain ⟨G1, G2, rfl, h3, h4⟩ := (RWc_app A B (o + 1) F2).1 h2
      refine ⟨F1 ++ G1, G2, by simp, ?_, ?_⟩
      · rw [RWc]; exact ⟨F1, G1, rfl, h1, h3⟩
      · rw [List.length_cons, show o + (A.length + 1) = o + 1 + A.length by omega]; exact h4
    · rintro ⟨F1, F2, rfl, h1, h2⟩
      rw [RWc] at h1
      obtain ⟨G1, G2, rfl, h3, h4⟩ := h1
      refine ⟨G1, G2 ++ F2, by simp, h3, (RWc_app A B (o + 1) _).2 ⟨G2, F2, rfl, h4, ?_⟩⟩
      rwa [List.length_cons, show o + (A.length + 1) = o + 1 + A.length by omega] at h2
theorem RWe_app {w : World} {b sz : Nat} : ∀ (A B : List (List AV)) (o : Nat) (F : List Nat), RWe w b sz o (A ++ B) F ↔ ∃ F1 F2, F = F1 ++ F2 ∧ RWe w b sz o A F1 ∧ RWe w b sz (o + A.length * sz) B F2
  | [], B, o, F => by
    simp only [List.nil_append, List.length_nil, Nat.zero_mul, Nat.add_zero]
    constructor
    · intro h; exact ⟨[], F, rfl, by simp [RWe], h⟩
    · rintro ⟨F1, F2, rfl, h1, h2⟩
      rw [RWe] at h1; subst h1; exact h2
  | c :: A, B, o, F => by
    rw [List.cons_append, RWe]
    have e : o + (A.length + 1) * sz = o + sz + A.length * sz := by rw [Nat.add_mul]; omega
    constructor
    · rintro ⟨F1, F2, rfl, h0, h1, h2⟩
      obtain ⟨G1, G2, rfl, h3, h4⟩ := (RWe_app A B (o + sz) F2).1 h2
      refine ⟨F1 ++ G1, G2, by simp, ?_, ?_⟩
      · rw [RWe]; exact ⟨F1, G1, rfl, h0, h1, h3⟩
      · rw [List.length_cons, e]; exact h4
    · rintro ⟨F1, F2, rfl, h1, h2⟩
      rw [RWe] at h1
      obtain ⟨G1, G2, rfl, h0, h3, h4⟩ := h1
      refine ⟨G1, G2 ++ F2, by simp, h0, h3, (RWe_app A B (o + sz) _).2 ⟨G2, F2, rfl, h4, ?_⟩⟩
      rwa [List.length_cons, e] at h2
theorem list_at {α : Type} (xs : List α) (i : Nat) (h : i < xs.length) : xs = xs.take i ++ xs[i] :: xs.drop (i + 1) := by
  rw [List.getElem_cons_drop, List.take_append_drop]
/-- The i-th element's cells. -/
theorem RWe_at {w : World} {b sz : Nat} {xs : List (List AV)} {F : List Nat} {i : Nat} (hi : i < xs.length) : RWe w b sz 0 xs F ↔ ∃ F1 Fx F2, F = F1 ++ (Fx ++ F2) ∧ RWe w b sz 0 (xs.take i) F1 ∧ xs[i].length = sz ∧ RWc w b (i * sz) xs[i] Fx ∧ RWe w b sz ((i + 1) * sz) (xs.drop (i + 1)) F2 := by
  have e : (xs.take i).length = i := by simp; omega
  constructor
  · intro h
    rw [list_at xs i hi, RWe_app] at h
    obtain ⟨F1, F2, rfl, h1, h2⟩ := h
    rw [RWe] at h2
    obtain ⟨Fx, G, rfl, h3, h4, h5⟩ := h2
    rw [e, Nat.zero_add] at h4 h5
    exact ⟨F1, Fx, G, rfl, h1, h3, h4, by rwa [Nat.add_mul, Nat.one_mul]⟩
  · rintro ⟨F1, Fx, F2, rfl, h1, h2, h3, h4⟩
    rw [list_at xs i hi, RWe_app]
    refine ⟨F1, Fx ++ F2, rfl, h1, ?_⟩
    rw [RWe, e, Nat.zero_add]
    exact ⟨Fx, F2, rfl, h2, h3, by rwa [Nat.add_mul, Nat.one_mul] at h4⟩
theorem RWe_set {w : World} {b sz : Nat} {xs : List (List AV)} {i : Nat} (hi : i < xs.length) {x' : List AV} {F1 Fx F2 : List Nat} (h1 : RWe w b sz 0 (xs.take i) F1) (hl : x'.length = sz) (h2 : RWc w b (i * sz) x' Fx) (h3 : RWe w b sz ((i + 1) * sz) (xs.drop (i + 1)) F2) : RWe w b sz 0 (xs.set i x') (F1 ++ (Fx ++ F2)) := by
  have hi' : i < (xs.set i x').length := by simpa using hi
  rw [RWe_at hi']
  refine ⟨F1, Fx, F2, rfl, ?_, by simpa using hl, by simpa using h2, ?_⟩
  · rw [List.take_set_of_le (Nat.le_refl _)]; exact h1
  · rw [List.drop_set_of_lt (by omega)]; exact h3
theorem RWc_chg {w w' : World} {b : Nat} : ∀ (cs : List AV) (o : Nat) (F : List Nat), (∀ j, j < cs.length → w'.cell? ⟨b, o + j, none⟩ = w.cell? ⟨b, o + j, none⟩) → (∀ c ∈ F, w'.heap[c]? = w.heap[c]?) → RWc w b o cs F → RWc w' b o cs F
  | [], o, F, _, _, h => by simpa [RWc] using h
  | c :: cs, o, F, hc, hF, h => by
    rw [RWc] at h ⊢
    obtain ⟨F1, F2, rfl, ⟨v, h1, h2⟩, h3⟩ := h
    refine ⟨F1, F2, rfl, ⟨v, ?_, RW_mono _ _ F1 (fun d hd => hF d (by simp [hd])) h2⟩, RWc_chg cs (o + 1) F2 (fun j hj => ?_) (fun d hd => hF d (by simp [hd])) h3⟩
    · have := hc 0 (by simp); rw [Nat.add_zero] at this; rw [this]; exact h1
    · have := hc (j + 1) (by simpa using hj); rwa [show o + (j + 1) = o + 1 + j by omega] at this
theorem RWe_chg {w w' : World} {b sz : Nat} : ∀ (xs : List (List AV)) (o : Nat) (F : List Nat), (∀ j, j < xs.length * sz → w'.cell? ⟨b, o + j, none⟩ = w.cell? ⟨b, o + j, none⟩) → (∀ c ∈ F, w'.heap[c]? = w.heap[c]?) → RWe w b sz o xs F → RWe w' b sz o xs F
  | [], o, F, _, _, h => by simpa [RWe] using h
  | x :: xs, o, F, hc, hF, h => by
    rw [RWe] at h ⊢
    obtain ⟨F1, F2, rfl, h0, h1, h2⟩ := h
    refine ⟨F1, F2, rfl, h0, RWc_chg x o F1 (fun j hj => hc j ?_) (fun d hd => hF d (by simp [hd])) h1, RWe_chg xs (o + sz) F2 (fun j hj => ?_) (fun d hd => hF d (by simp [hd])) h2⟩
    · rw [List.length_cons, Nat.add_mul]; omega
    · have := hc (sz + j) (by rw [List.length_cons, Nat.add_mul]; omega); rwa [show o + (sz + j) = o + sz + j by omega] at this
/-- A value that comes into a row whose rows are its own. -/
def swl1 (st : St) : AV → Option AV
  | .g v => some (.g v)
  | .s l => some (.s l)
  | .arr m 0 len => match st.ob m with
    | some (.own s ys) => if len = ys.length then some (.sl s ys) else none
    | some (.flat s ys) => if len = ys.length ∧ scR ys = true then some (.sl s ys) else none
    | some (.win s ys) => if len = ys.length ∧ scR ys = true then some (.sl s ys) else none
    | _ => none
  | _ => none
def swl (st : St) : List AV → Option (List AV)
  | [] => some []
  | c :: cs => match swl1 st c, swl st cs with
    | some c', some cs' => some (c' :: cs')
    | _, _ => none
section
variable {C : Cx} {st : St} {a : Act} {w : World} {I : Nat → Prop} {β : Beta} {φ : Nat → List Nat}
/-- What an own row holds, seen as such. -/
theorem ownRO (hC : Conc C st a w I β φ) {m s : Nat} {ys : List (List AV)} (h : st.ob m = some (.own s ys) ∨ (st.ob m = some (.flat s ys) ∧ scR ys = true) ∨ (st.ob m = some (.win s ys) ∧ scR ys = true)) :
    ∃ bl, β m = some bl ∧ bl.sz = s ∧ bl.o = 0 ∧ ys.length ≤ bl.cap ∧ (φ m).Nodup ∧ ((bl.cap = 0 ∧ φ m = []) ∨ ∃ F', φ m = bl.b :: F' ∧ OwnW w bl.b 0 (bl.cap * s) ∧ RWe w bl.b s 0 ys F') := by
  rcases h with h | ⟨h, hs⟩ | ⟨h, hs⟩
  · exact hC.ob _ _ h
  · obtain ⟨bl, g1, g2, g3, g4, g5⟩ := hC.ob _ _ h
    exact ⟨bl, g1, g2, g3, g4, by rcases g5 with ⟨-, h⟩ | ⟨h, -⟩ <;> rw [h] <;> simp, g5.imp id fun g => ⟨[], g.1, g.2.1, RJe_RWe (I := I) (β := β) _ _ hs (RIe_RJe _ _ g.2.2)⟩⟩
  · obtain ⟨bl, g1, g2, g3, g4, g5⟩ := hC.ob _ _ h
    exact ⟨bl, g1, g2, g3, g4, by rcases g5 with ⟨-, h⟩ | ⟨h, -⟩ <;> rw [h] <;> simp, g5.imp id fun g => ⟨[], g.1, g.2.1, RJe_RWe (I := I) (β := β) _ _ hs g.2.2⟩⟩
def fpt (φ : Nat → List Nat) : AV → List Nat
  | .arr m _ _ => φ m
  | _ => []
theorem swl1_arr {m off len : Nat} {c' : AV} (h : swl1 st (.arr m off len) = some c') : ∃ s ys, off = 0 ∧ len = ys.length ∧ c' = .sl s ys ∧ (st.ob m = some (.own s ys) ∨ (st.ob m = some (.flat s ys) ∧ scR ys = true) ∨ (st.ob m = some (.win s ys) ∧ scR ys = true)) := by
  cases off with
  | succ n => cases h
  | zero =>
    unfold swl1 at h
    split at h
    · rename_i hq; cases hq
    · rename_i hq; cases hq
    · rename_i m' len' heq
      cases heq
      split at h
      · rename_i s ys ho
        split at h
        · cases h; exact ⟨s, ys, rfl, by assumption, rfl, .inl ho⟩
        · cases h
      · rename_i s ys ho
        split at h
        · rename_i hh; cases h; exact ⟨s, ys, rfl, hh.1, rfl, .inr (.inl ⟨ho, hh.2⟩)⟩
        · cases h
      · rename_i s ys ho
        split at h
        · rename_i hh; cases h; exact ⟨s, ys, rfl, hh.1, rfl, .inr (.inr ⟨ho, hh.2⟩)⟩
        · cases h
      · cases h
    · cases h
theorem swl1_sound (hC : Conc C st a w I β φ) {c c' : AV} (h : swl1 st c = some c') {v : Value} (hv : Rv1 w I β c v) (h1 : v.oneCell' = true) : ∃ F, F.Nodup ∧ (∀ b ∈ F, b ∈ fpt φ c) ∧ RW w c' v F := by
  cases c with
  | g x => cases h; cases hv; exact ⟨[], by simp, by simp, by rw [RW]; exact ⟨rfl, h1, rfl⟩⟩
  | s l => cases h; exact ⟨[], by simp, by simp, by rw [RW]; exact ⟨hv, rfl⟩⟩
  | arr m off len =>
    obtain ⟨s, ys, rfl, rfl, rfl, ho⟩ := swl1_arr h
    obtain ⟨bl, g1, g2, g3, g4, g5, g6⟩ := ownRO hC ho
    obtain ⟨bl', g7, g8, g9⟩ := hv
    rw [g1] at g7; cases g7
    rcases g9 with rfl | ⟨g9, a0, rfl⟩
    · rcases g6 with ⟨g6, g10⟩ | ⟨F', g6, g10, g11⟩
      · refine ⟨[], by simp, by simp, ?_⟩
        rw [RW]
        exact ⟨_, _, rfl, by omega, .inl ⟨List.length_eq_zero_iff.1 (by omega), by omega, rfl⟩⟩
      · refine ⟨φ m, g5, fun b hb => hb, ?_⟩
        rw [RW, g3]
        simp only [Nat.zero_mul, Nat.add_zero, Nat.sub_zero]
        exact ⟨_, _, rfl, g4, .inr ⟨bl.b, F', rfl, g6, g10, g11⟩⟩
    · have hy : ys = [] := List.length_eq_zero_iff.1 (by omega)
      subst hy
      refine ⟨[], by simp, by simp, ?_⟩
      rw [RW]
      exact ⟨a0, 0, rfl, Nat.le_refl _, .inl ⟨rfl, rfl, rfl⟩⟩
  | _ => cases h
theorem swls (hC : Conc C st a w I β φ) : ∀ (new new' : List AV), swl st new = some new' → (arrN new).Nodup → ∀ (vs : List Value), (∀ (j : Nat) c, new[j]? = some c → ∃ v, vs[j]? = some v ∧ Rv1 w I β c v ∧ v.oneCell' = true) →
    new'.length = new.length ∧ ∃ F, F.Nodup ∧ (∀ b ∈ F, ∃ m ∈ arrN new, b ∈ φ m) ∧ ∀ (w' : World) (b o : Nat), (∀ d ∈ F, w'.heap[d]? = w.heap[d]?) → (∀ (j : Nat) v, vs[j]? = some v → j < new.length → w'.cell? ⟨b, o + j, none⟩ = some v) → RWc w' b o new' F
  | [], new', h, _, vs, _ => by cases h; exact ⟨rfl, [], by simp, by simp, fun w' b o _ _ => by simp [RWc]⟩
  | c :: cs, new', h, hnd, vs, hv => by
    unfold swl at h
    split at h
    · rename_i c' cs' h1 h2
      cases h
      obtain ⟨v, k1, k2, k3⟩ := hv 0 c rfl
      obtain ⟨F1, f1, f2, f3⟩ := swl1_sound hC h1 k2 k3
      have hnd2 : (arrN cs).Nodup := by cases c <;> first | exact hnd | exact (List.nodup_cons.1 hnd).2
      obtain ⟨vs', rfl⟩ : ∃ vs', vs = v :: vs' := by cases vs with
        | nil => simp at k1
        | cons u us => simp at k1; exact ⟨us, by rw [k1]⟩
      obtain ⟨g0, F2, g1, g2, g3⟩ := swls hC cs cs' h2 hnd2 vs' fun j d hd => by simpa using hv (j + 1) d (by simpa using hd)
      have hdis : ∀ b, b ∈ F1 → b ∈ F2 → False := by
        intro b hb1 hb2
        obtain ⟨m, hm, hb2⟩ := g2 b hb2
        have hb1 := f2 b hb1
        cases c with
        | arr k off len =>
          have hne : k ≠ m := by rintro rfl; exact (List.nodup_cons.1 hnd).1 hm
          exact hC.sep k m hne b hb1 hb2
        | _ => simp [fpt] at hb1
      refine ⟨by simp [g0], F1 ++ F2, List.nodup_append.2 ⟨f1, g1, fun a ha b hb e => hdis a ha (e ▸ hb)⟩, ?_, ?_⟩
      · intro b hb
        rcases List.mem_append.1 hb with hb | hb
        · have := f2 b hb
          cases c with
          | arr k off len => exact ⟨k, List.mem_cons_self, this⟩
          | _ => simp [fpt] at this
        · obtain ⟨m, hm, hb⟩ := g2 b hb
          refine ⟨m, ?_, hb⟩
          cases c <;> first | exact hm | exact List.mem_cons_of_mem _ hm
      · intro w' b o hw hc
        rw [RWc]
        refine ⟨F1, F2, rfl, ⟨v, ?_, RW_mono _ _ F1 (fun d hd => hw d (by simp [hd])) f3⟩, g3 w' b (o + 1) (fun d hd => hw d (by simp [hd])) fun j u hu hj => ?_⟩
        · have := hc 0 v rfl (by simp); rwa [Nat.add_zero] at this
        · have := hc (j + 1) u (by simpa using hu) (by simpa using hj); rwa [show o + (j + 1) = o + 1 + j by omega] at this
    · cases h
theorem updL_dead {ob : Nat → Option OB} : ∀ (D : List Nat) (k : Nat), updL ob (D.map fun d => (d, OB.dead)) k = if k ∈ D then some .dead else ob k
  | [], k => by simp [updL]
  | d :: D, k => by
    rw [List.map_cons, updL_cons, updL_dead D k]
    by_cases h : k ∈ D
    · simp [h]
    · by_cases h2 : k = d
      · subst h2; simp [upd_same, h]
      · simp [h, h2, upd_other]
/-- An object is written and takes in others. -/
theorem Conc.absorb (hC : Conc C st a w I β φ) {w' : World} {n : Nat} {D : List Nat} {o' : OB} {F : List Nat} (hev : Evo (· ∈ φ n) w w') (hn : st.ob n ≠ none) (hnD : n ∉ D) (hD : ∀ d ∈ D, st.ob d ≠ none)
    (hF : ∀ b ∈ F, b ∈ φ n ∨ ∃ d ∈ D, b ∈ φ d) (hY : ∀ b ∈ φ n, ¬ C.Y b) (hDY : ∀ d ∈ D, ∀ b ∈ φ d, ¬ C.Y b) (hof : ∀ sz xs, o' ≠ .flat sz xs) (hro : RO w' I β n o' F) :
    Conc C { st with ob := updL st.ob (D.map (fun d => (d, OB.dead)) ++ [(n, o')]) } a w' I β (fun k => if k = n then F else if k ∈ D then [] else φ k) := by
  have hob : ∀ k, updL st.ob (D.map (fun d => (d, OB.dead)) ++ [(n, o')]) k = if k = n then some o' else if k ∈ D then some .dead else st.ob k := by
    intro k
    rw [updL_append, updL_cons, updL_nil]
    by_cases h : k = n
    · subst h; simp [upd_same]
    · rw [upd_other _ _ h, updL_dead, if_neg h]
  have hnone : ∀ k, updL st.ob (D.map (fun d => (d, OB.dead)) ++ [(n, o')]) k = none → k ≠ n ∧ k ∉ D ∧ st.ob k = none := by
    intro k hk
    rw [hob] at hk
    by_cases h : k = n
    · rw [if_pos h] at hk; cases hk
    · rw [if_neg h] at hk
      by_cases h2 : k ∈ D
      · rw [if_pos h2] at hk; cases hk
      · rw [if_neg h2] at hk; exact ⟨h, h2, hk⟩
  have hmem : ∀ k b, b ∈ (if k = n then F else if k ∈ D then [] else φ k) → (k = n ∧ b ∈ F) ∨ (k ≠ n ∧ k ∉ D ∧ b ∈ φ k) := by
    intro k b hb
    by_cases h : k = n
    · rw [if_pos h] at hb; exact .inl ⟨h, hb⟩
    · rw [if_neg h] at hb
      by_cases h2 : k ∈ D
      · rw [if_pos h2] at hb; simp at hb
      · rw [if_neg h2] at hb; exact .inr ⟨h, h2, hb⟩
  have hsrc : ∀ b ∈ F, ∃ k, (k = n ∨ k ∈ D) ∧ b ∈ φ k := by
    intro b hb
    rcases hF b hb with h | ⟨d, h1, h2⟩
    · exact ⟨n, .inl rfl, h⟩
    · exact ⟨d, .inr h1, h2⟩
  refine hC.move (· ∈ φ n) hev (fun b hb => ⟨n, hb, hY b hb⟩) (fun _ hb => hb) (fun _ hb => .inl hb) (fun _ _ hb => hb) ?_ (fun k hk => hC.dom k (hnone k hk).2.2) ?_ ?_ ?_ ?_ ?_ ?_
  · intro k o ho
    rw [hob] at ho
    by_cases h : k = n
    · subst h
      rw [if_pos rfl] at ho; cases ho
      simp only [if_pos]
      exact .inr hro
    · rw [if_neg h] at ho
      simp only [if_neg h]
      by_cases h2 : k ∈ D
      · rw [if_pos h2] at ho; cases ho
        rw [if_pos h2]
        exact .inr rfl
      · rw [if_neg h2] at ho
        rw [if_neg h2]
        exact .inl ⟨ho, rfl, fun b hb hb' => hC.sep k n h b hb hb'⟩
  · intro k hk
    obtain ⟨h1, h2, h3⟩ := hnone k hk
    simp only [if_neg h1, if_neg h2]
    exact hC.fdom k h3
  · intro k l hkl b hb hb'
    rcases hmem k b hb with ⟨rfl, h1⟩ | ⟨h1, h2, h3⟩
    · rcases hmem l b hb' with ⟨rfl, -⟩ | ⟨h4, h5, h6⟩
      · exact hkl rfl
      · obtain ⟨m, hm, hbm⟩ := hsrc b h1
        exact hC.sep m l (by rintro rfl; rcases hm with rfl | hm; exact h4 rfl; exact h5 hm) b hbm h6
    · rcases hmem l b hb' with ⟨rfl, h4⟩ | ⟨h4, h5, h6⟩
      · obtain ⟨m, hm, hbm⟩ := hsrc b h4
        exact hC.sep k m (by rintro rfl; rcases hm with rfl | hm; exact h1 rfl; exact h2 hm) b h3 hbm
      · exact hC.sep k l hkl b h3 h6
  · intro k b hb
    rcases hmem k b hb with ⟨-, h1⟩ | ⟨-, -, h1⟩
    · obtain ⟨m, -, hbm⟩ := hsrc b h1; exact hC.nimm m b hbm
    · exact hC.nimm k b h1
  · intro k b hb
    have : b < w.heap.size ∧ (C.X b ∨ C.Y b ∨ C.w0.heap.size ≤ b) := by
      rcases hmem k b hb with ⟨-, h1⟩ | ⟨-, -, h1⟩
      · obtain ⟨m, -, hbm⟩ := hsrc b h1; exact hC.flt m b hbm
      · exact hC.flt k b h1
    exact ⟨Nat.lt_of_lt_of_le this.1 hev.size, this.2⟩
  · intro k o ho hwr b hb
    rcases hmem k b hb with ⟨rfl, h1⟩ | ⟨h1, h2, h3⟩
    · rcases hF b h1 with h | ⟨d, h2, h3⟩
      · exact hY b h
      · exact hDY d h2 b h3
    · rw [hob, if_neg h1, if_neg h2] at ho
      exact hC.wok k o ho hwr b h3
  · intro k sz xs ho b hb
    rcases hmem k b hb with ⟨rfl, h1⟩ | ⟨h1, h2, h3⟩
    · rw [hob, if_pos rfl] at ho; exact (hof sz xs (Option.some.inj ho)).elim
    · rw [hob, if_neg h1, if_neg h2] at ho
      exact hC.fnew k sz xs ho b h3
theorem nodup_mid {b : Nat} {F1 Fa Fo Fb F2 Fn : List Nat} (h : (b :: (F1 ++ ((Fa ++ (Fo ++ Fb)) ++ F2))).Nodup) (hn : Fn.Nodup) (hd : ∀ x ∈ Fn, x ∉ b :: (F1 ++ ((Fa ++ (Fo ++ Fb)) ++ F2))) : (b :: (F1 ++ ((Fa ++ (Fn ++ Fb)) ++ F2))).Nodup := by
  simp only [List.nodup_cons, List.nodup_append, List.mem_append, List.mem_cons, not_or] at h hd ⊢
  grind
theorem setCells_eq (x new : List AV) (f : Nat) (h : f + new.length ≤ x.length) : setCells x f new = x.take f ++ (new ++ x.drop (f + new.length)) := by
  unfold setCells
  split
  · rename_i v
    have : f < x.length := by simp at h; omega
    rw [List.set_eq_take_append_cons_drop, if_pos this]
    rfl
  · rw [List.append_assoc]
def stO (P : Program) (st : St) (T : TI) (new : List AV) (n i f sz : Nat) (xs : List (List AV)) : ARes :=
  match swl st new with
  | some new' => some (new.length = T.size ∧ new.all isOne = true ∧ f + new.length ≤ sz ∧ i < xs.length ∧ (arrN new).Nodup ∧ (arrN new).contains n = false, .g undef, (arrN new).map (fun d => (d, OB.dead)) ++ [(n, .own sz (xs.set i (setCells (xs.getD i []) f new')))])
  | none => none
def aStoreO (P : Program) (st : St) (t : TypeId) (x v : AV) : ARes :=
  match ti P t, valCells v with
  | some T, some new => match x with
    | .eptr n i f => match st.ob n with
      | some (.own sz xs) => stO P st T new n i f sz xs
      | some (.ownh sz xs _) => stO P st T new n i f sz xs
      | _ => none
    | _ => none
  | _, _ => none
def aIndexAddrO (P : Program) (st : St) (t : TypeId) (x i : AV) : ARes :=
  match ti P t, x, i with
  | some T, .arr m off len, .g (.int _ n) => match T.kind with
    | .slice e => match ti P e with
      | some E => match st.ob m with
        | some (.own sz _) => some (0 ≤ n ∧ n < len ∧ E.size = sz, .eptr m (off + n.toNat) 0, [])
        | some (.ownh sz _ _) => some (0 ≤ n ∧ n < len ∧ E.size = sz, .eptr m (off + n.toNat) 0, [])
        | _ => none
      | none => none
    | _ => none
  | _, _, _ => none
/-- A load of plain cells. -/
def ldO (T : TI) (xs : List (List AV)) (i f : Nat) : ARes :=
  if T.agg then some (T.size ≤ ((xs.getD i []).drop f).length ∧ (((xs.getD i []).drop f).take T.size).all scal0 = true, .agg (((xs.getD i []).drop f).take T.size), []) else match (xs.getD i []).drop f with
    | .g v :: _ => some (True, .g v, [])
    | .s v :: _ => some (True, .s v, [])
    | _ => none
def aLoadO (P : Program) (st : St) (t : TypeId) (x : AV) : ARes :=
  match ti P t, x with
  | some T, .eptr n i f => match st.ob n with
    | some (.own _ xs) => ldO T xs i f
    | some (.ownh _ xs _) => ldO T xs i f
    | _ => none
  | _, _ => none
/-- A load of a nested row, whose value is known from then on. -/
def nestC (P : Program) (t : TypeId) (n i f sz : Nat) (xs : List (List AV)) (hs : List (Nat × Nat × Value)) : Option (Nat × (Value → OB)) :=
  match ti P t with
  | some T => if T.agg then none else match (xs.getD i []).drop f with
    | .sl _ _ :: _ => some (n, fun v => .ownh sz xs ((i, f, v) :: hs))
    | _ => none
  | none => none
def nestL (P : Program) (st : St) (t : TypeId) (x : AV) : Option (Nat × (Value → OB)) :=
  match x with
  | .eptr n i f => match st.ob n with
    | some (.own sz xs) => nestC P t n i f sz xs []
    | some (.ownh sz xs hs) => nestC P t n i f sz xs hs
    | _ => none
  | _ => none
theorem ownhRO (hC : Conc C st a w I β φ) {m s : Nat} {ys : List (List AV)} (h : st.ob m = some (.own s ys) ∨ ∃ hs, st.ob m = some (.ownh s ys hs)) :
    (∃ bl, β m = some bl ∧ bl.sz = s ∧ bl.o = 0 ∧ ys.length ≤ bl.cap ∧ (φ m).Nodup ∧ ((bl.cap = 0 ∧ φ m = []) ∨ ∃ F', φ m = bl.b :: F' ∧ OwnW w bl.b 0 (bl.cap * s) ∧ RWe w bl.b s 0 ys F')) ∧ ∀ b ∈ φ m, ¬ C.Y b := by
  rcases h with h | ⟨hs, h⟩
  · exact ⟨hC.ob _ _ h, hC.wok _ _ h rfl⟩
  · obtain ⟨bl, g1, g2, g3, g4, g5, g6⟩ := hC.ob _ _ h
    exact ⟨⟨bl, g1, g2, g3, g4, g5, g6.imp id fun ⟨F', k1, k2, k3, _⟩ => ⟨F', k1, k2, k3⟩⟩, hC.wok _ _ h rfl⟩
theorem swl_names : ∀ (new new' : List AV), swl st new = some new' → ∀ m ∈ arrN new, ∃ s ys, st.ob m = some (.own s ys) ∨ (st.ob m = some (.flat s ys) ∧ scR ys = true) ∨ (st.ob m = some (.win s ys) ∧ scR ys = true)
  | [], _, _, m, hm => by simp [arrN] at hm
  | c :: cs, new', h, m, hm => by
    unfold swl at h
    split at h
    · rename_i c' cs' h1 h2
      cases c with
      | arr k off len =>
        rcases List.mem_cons.1 hm with rfl | hm
        · obtain ⟨s, ys, -, -, -, ho⟩ := swl1_arr h1
          exact ⟨s, ys, ho⟩
        · exact swl_names cs cs' h2 m hm
      | _ => exact swl_names cs cs' h2 m hm
    · cases h
theorem noY_of (hC : Conc C st a w I β φ) {m s : Nat} {ys : List (List AV)} (h : st.ob m = some (.own s ys) ∨ (st.ob m = some (.flat s ys) ∧ scR ys = true) ∨ (st.ob m = some (.win s ys) ∧ scR ys = true)) : ∀ b ∈ φ m, ¬ C.Y b := by
  rcases h with h | ⟨h, -⟩ | ⟨h, -⟩
  · exact hC.wok _ _ h rfl
  · intro b hb hy
    have := hC.fnew _ _ _ h b hb
    have := hC.ylt b hy
    omega
  · exact hC.wok _ _ h rfl
theorem stO_sound (hC : Conc C st a w I β φ) {t : TypeId} {T : TI} {new : List AV} {n i f sz : Nat} {xs : List (List AV)} {v : AV} {x y : Value} {c : Prop} {u : Ups} {inf : TypeInfo} (hi : P.info? t = some inf) (hT : T.size = inf.size)
    (hob : st.ob n = some (.own sz xs) ∨ ∃ hs, st.ob n = some (.ownh sz xs hs)) (hx : Rv w I β (.eptr n i f) x) (hv1 : new.all isOne = true → Rv1s w I β new y.cells.toList) (hv2 : new.all isOne = true → ∀ z ∈ y.cells.toList, z.oneCell' = true) (h : stO P st T new n i f sz xs = some (c, v, u)) (hc : c) :
    v = .g undef ∧ ∃ w' φ', (Instr.storeAt t x y).run P w = .ok () w' ∧ Conc C { st with ob := updL st.ob u } a w' I β φ' := by
  unfold stO at h
  split at h
  · rename_i new' hsw
    cases h
    obtain ⟨h1, h2, h3, h4, h5, h6⟩ := hc
    have hnn : n ∉ arrN new := by simpa using h6
    obtain ⟨hl, hg⟩ := Rv1s_get _ _ (hv1 h2)
    obtain ⟨⟨bl, g1, g2, g3, g4, g5, g6⟩, gY⟩ := ownhRO hC hob
    obtain ⟨bl', hb', rfl⟩ := hx
    rw [g1] at hb'; cases hb'
    rcases g6 with ⟨g6, -⟩ | ⟨F', gφ, ⟨arr, ty, hh, hsize⟩, grc⟩
    · omega
    subst g2
    rw [g3, Nat.zero_add]
    have hbig : i * bl.sz + bl.sz ≤ bl.cap * bl.sz := by
      have : (i + 1) * bl.sz ≤ bl.cap * bl.sz := Nat.mul_le_mul_right _ (by omega)
      rwa [Nat.add_mul, Nat.one_mul] at this
    have hlen : y.cells.toList.length = new.length := hl.symm
    have hrun := run_storeCells_at P bl.b (i * bl.sz + f) ty y.cells.toList 0 arr w hh (by omega) (hv2 h2)
    have hnew := setRow_heap w bl.b arr (arr.toList.take (i * bl.sz + f + 0) ++ y.cells.toList ++ arr.toList.drop (i * bl.sz + f + 0 + y.cells.toList.length)).toArray ty (0, 0) hh
    have hspl : ∀ k, (w.setRow bl.b (arr.toList.take (i * bl.sz + f + 0) ++ y.cells.toList ++ arr.toList.drop (i * bl.sz + f + 0 + y.cells.toList.length)).toArray).cell? ⟨bl.b, k, none⟩ =
        if i * bl.sz + f ≤ k ∧ k < i * bl.sz + f + y.cells.toList.length then y.cells.toList[k - (i * bl.sz + f)]? else arr[k]? := by
      intro k
      rw [cell_row hnew, List.getElem?_toArray, splice_get _ _ _ (by simp only [Array.length_toList] at hlen ⊢; omega)]
      simp only [Nat.zero_add, Nat.add_zero, Array.getElem?_toList]
    have hoth : ∀ k, k ≠ bl.b → (w.setRow bl.b (arr.toList.take (i * bl.sz + f + 0) ++ y.cells.toList ++ arr.toList.drop (i * bl.sz + f + 0 + y.cells.toList.length)).toArray).heap[k]? = w.heap[k]? := fun k hk => setRow_other w bl.b k _ hk
    generalize hw' : w.setRow bl.b (arr.toList.take (i * bl.sz + f + 0) ++ y.cells.toList ++ arr.toList.drop (i * bl.sz + f + 0 + y.cells.toList.length)).toArray = w' at hrun hnew hspl hoth
    have hevo : Evo (· ∈ φ n) w w' := by rw [← hw']; exact evo_setRow _ _ _ _ (by rw [gφ]; simp)
    have hsame : ∀ k, ¬ (i * bl.sz + f ≤ k ∧ k < i * bl.sz + f + new.length) → w'.cell? ⟨bl.b, k, none⟩ = w.cell? ⟨bl.b, k, none⟩ := by
      intro k hk
      rw [hspl, if_neg (by rw [hlen]; exact hk), cell_row hh]
    obtain ⟨n1, Fn, n2, n3, n4⟩ := swls hC new new' hsw h5 y.cells.toList (fun j c hc => by
      obtain ⟨v, k1, k2⟩ := hg j c hc
      exact ⟨v, k1, k2, hv2 h2 v (List.mem_of_getElem? k1)⟩)
    -- the row's parts
    obtain ⟨F1, Fx, F2, rfl, r1, r2, r3, r4⟩ := (RWe_at h4).1 grc
    have hgd : xs.getD i [] = xs[i] := by simp [List.getD, h4]
    have hfit : f + new'.length ≤ xs[i].length := by rw [r2, n1]; exact h3
    have hxi : xs[i] = xs[i].take f ++ ((xs[i].drop f).take new'.length ++ xs[i].drop (f + new'.length)) := by
      rw [← List.drop_drop, List.take_append_drop, List.take_append_drop]
    rw [hxi, RWc_app] at r3
    obtain ⟨Fa, Fr, rfl, s1, s2⟩ := r3
    rw [RWc_app] at s2
    obtain ⟨Fo, Fb, rfl, -, s3⟩ := s2
    have ltake : (xs[i].take f).length = f := by simp; omega
    have lmid : ((xs[i].drop f).take new'.length).length = new'.length := by simp; omega
    rw [ltake, lmid] at s3
    rw [gφ] at g5
    have hbn : ∀ d ∈ F1 ++ ((Fa ++ (Fo ++ Fb)) ++ F2), d ≠ bl.b := by
      rintro d hd rfl
      exact (List.nodup_cons.1 g5).1 hd
    have hdis : ∀ d ∈ Fn, d ∉ bl.b :: (F1 ++ ((Fa ++ (Fo ++ Fb)) ++ F2)) := by
      intro d hd hd'
      obtain ⟨m, hm, hdm⟩ := n3 d hd
      rw [← gφ] at hd'
      exact hC.sep m n (by rintro rfl; exact hnn hm) d hdm hd'
    have hD : ∀ d ∈ arrN new, st.ob d ≠ none := by
      intro d hd
      obtain ⟨s, ys, ho⟩ := swl_names new new' hsw d hd
      rcases ho with ho | ⟨ho, -⟩ | ⟨ho, -⟩ <;> rw [ho] <;> simp
    have hDY : ∀ d ∈ arrN new, ∀ b ∈ φ d, ¬ C.Y b := by
      intro d hd
      obtain ⟨s, ys, ho⟩ := swl_names new new' hsw d hd
      exact noY_of hC ho
    have hro : RO w' I β n (.own bl.sz (xs.set i (setCells (xs.getD i []) f new'))) (bl.b :: (F1 ++ ((Fa ++ (Fn ++ Fb)) ++ F2))) := by
      refine ⟨bl, g1, rfl, g3, by simpa using g4, nodup_mid g5 n2 hdis, .inr ⟨_, rfl, ⟨_, ty, hnew, by simp; omega⟩, ?_⟩⟩
      rw [hgd, setCells_eq _ _ _ hfit]
      have hi1 : i * bl.sz ≤ i * bl.sz + f := by omega
      refine RWe_set h4 ?_ (by simp; omega) ?_ ?_
      · refine RWe_chg _ _ _ (fun j hj => ?_) (fun d hd => hoth d (hbn d (by simp [hd]))) r1
        have : (xs.take i).length ≤ i := by simp; omega
        have := Nat.mul_le_mul_right bl.sz this
        exact hsame _ (by omega)
      · rw [RWc_app]
        refine ⟨Fa, Fn ++ Fb, rfl, ?_, ?_⟩
        · refine RWc_chg _ _ _ (fun j hj => hsame _ (by rw [ltake] at hj; omega)) (fun d hd => hoth d (hbn d (by simp [hd]))) s1
        · rw [RWc_app]
          refine ⟨Fn, Fb, rfl, ?_, ?_⟩
          · rw [ltake]
            refine n4 w' bl.b (i * bl.sz + f) (fun d hd => hoth d ?_) fun j u hu hj => ?_
            · rintro rfl; exact hdis _ hd (by simp)
            · rw [hspl, if_pos (by omega), ← hu]; congr 1; omega
          · rw [ltake]
            refine RWc_chg _ _ _ (fun j hj => hsame _ (by rw [n1] at *; omega)) (fun d hd => hoth d (hbn d (by simp [hd]))) ?_
            rwa [Nat.add_assoc] at s3 ⊢
      · refine RWe_chg _ _ _ (fun j hj => hsame _ ?_) (fun d hd => hoth d (hbn d (by simp [hd]))) r4
        have e : (i + 1) * bl.sz = i * bl.sz + bl.sz := by rw [Nat.add_mul, Nat.one_mul]
        rw [e]; omega
    refine ⟨rfl, w', _, ?_, hC.absorb hevo (by rcases hob with h | ⟨hs, h⟩ <;> rw [h] <;> simp) hnn hD ?_ gY hDY (by simp) hro⟩
    · simp [Instr.storeAt, Instr.sureAddr, storeVar, sizeOf, typeInfo, hi, ← hT, ← h1, hrun]
      simp at hlen
      omega
    · intro b hb
      rw [gφ]
      rcases List.mem_cons.1 hb with rfl | hb
      · exact .inl (by simp)
      · simp only [List.mem_append] at hb
        rcases hb with hb | (hb | hb | hb) | hb
        · exact .inl (by simp [hb])
        · exact .inl (by simp [hb])
        · exact .inr (n3 b hb)
        · exact .inl (by simp [hb])
        · exact .inl (by simp [hb])
  · cases h
theorem storeO_sound (hC : Conc C st a w I β φ) {t : TypeId} {p q v : AV} {x y : Value} {c : Prop} {u : Ups} (hx : Rv w I β p x) (hy : Rv w I β q y) (h : aStoreO P st t p q = some (c, v, u)) (hc : c) :
    v = .g undef ∧ ∃ w' φ', (Instr.storeAt t x y).run P w = .ok () w' ∧ Conc C { st with ob := updL st.ob u } a w' I β φ' := by
  unfold aStoreO at h
  split at h
  · rename_i T new hT hnew
    obtain ⟨d, i, z, hd, hi, hz, rfl⟩ := ti_spec hT
    split at h
    · rename_i n i' f
      split at h
      · rename_i sz xs hob
        exact stO_sound hC hi rfl (.inl hob) hx (fun h2 => (valCells_spec hnew hy h2).1) (fun h2 => (valCells_spec hnew hy h2).2) h hc
      · rename_i sz xs hs hob
        exact stO_sound hC hi rfl (.inr ⟨hs, hob⟩) hx (fun h2 => (valCells_spec hnew hy h2).1) (fun h2 => (valCells_spec hnew hy h2).2) h hc
      · cases h
    · cases h
  · cases h
theorem indexAddrO_sound (hC : Conc C st a w I β φ) {t : TypeId} {x i v : AV} {p q : Value} {c : Prop} {u : Ups} (hx : Rv w I β x p) (hi : Rv w I β i q)
    (h : aIndexAddrO P st t x i = some (c, v, u)) (hc : c) : Good P C st a w (Instr.indexAt t p q) v u := by
  unfold aIndexAddrO at h
  split at h
  · rename_i T m off len k n hT
    obtain ⟨d, i1, z, hd, hi1, hz, rfl⟩ := ti_spec hT
    cases hi
    simp only at h
    split at h
    · rename_i e hk
      cases d <;> simp only [tkOf, TK.slice.injEq, reduceCtorEq] at hk
      rw [hk] at hd
      split at h
      · rename_i E hE
        obtain ⟨d', i', z', hd', hi', hz', rfl⟩ := ti_spec hE
        obtain ⟨bl, hb, hle, hp⟩ := hx
        have key : ∀ sz, bl.sz = sz → (0 ≤ n ∧ n < len ∧ i'.size = sz) → Good P C st a w (Instr.indexAt t p (.int k n)) (.eptr m (off + n.toNat) 0) [] := by
          rintro sz hs ⟨h1, h2, h3⟩
          rcases hp with rfl | ⟨h0, a0, rfl⟩
          · refine good_pure hC (y := .pointer (some ⟨bl.b, bl.o + ((off + n.toNat) * bl.sz + 0), none⟩)) ?_ ⟨bl, hb, rfl⟩
            simp [Instr.indexAt, asIntOf, run_underlying hd, h1, h2, sizeOf, typeInfo, hi', Addr.add_lit, h3, hs]
            rw [Nat.add_mul]; omega
          · omega
        split at h
        · rename_i sz xs hob
          cases h
          obtain ⟨bl', hb', h1, -⟩ := hC.ob _ _ hob
          rw [hb] at hb'; cases hb'
          exact key sz h1 hc
        · rename_i sz xs hs hob
          cases h
          obtain ⟨bl', hb', h1, -⟩ := hC.ob _ _ hob
          rw [hb] at hb'; cases hb'
          exact key sz h1 hc
        · cases h
      · cases h
    · cases h
  · cases h
theorem ldO_sound (hC : Conc C st a w I β φ) {t : TypeId} {T : TI} (hT : ti P t = some T) {n i f sz : Nat} {xs : List (List AV)} (hob : st.ob n = some (.own sz xs) ∨ ∃ hs, st.ob n = some (.ownh sz xs hs)) {v : AV} {x : Value} {c : Prop} {u : Ups} (hx : Rv w I β (.eptr n i f) x) (h : ldO T xs i f = some (c, v, u)) (hc : c) :
    u = [] ∧ ∃ y, (Instr.loadAt t x).run P w = .ok y w ∧ Rv w I β v y := by
  unfold ldO at h
  · obtain ⟨d, inf, z, hd, hi, hz, rfl⟩ := ti_spec hT
    · obtain ⟨bl, hb, rfl⟩ := hx
      obtain ⟨⟨bl', hb', rfl, g3, g4, g5, g6⟩, -⟩ := ownhRO hC hob
      rw [hb] at hb'; cases hb'
      simp only at h
      have key : ∀ x, xs[i]? = some x → ∃ F, x.length = bl.sz ∧ RWc w bl.b (i * bl.sz) x F := by
        intro x hxi
        obtain ⟨hlt, rfl⟩ := List.getElem?_eq_some_iff.1 hxi
        rcases g6 with ⟨g6, -⟩ | ⟨F', -, -, g7⟩
        · omega
        · obtain ⟨F1, Fx, F2, -, -, h2, h3, -⟩ := (RWe_at hlt).1 g7
          exact ⟨Fx, h2, h3⟩
      rw [g3, Nat.zero_add]
      have hxi : ∀ c r, (xs.getD i []).drop f = c :: r → ∃ x, xs[i]? = some x ∧ x.drop f = c :: r := by
        intro c r e
        rw [List.getD_eq_getElem?_getD] at e
        cases hq : xs[i]? with
        | none => rw [hq] at e; simp at e
        | some x => rw [hq] at e; exact ⟨x, rfl, e⟩
      have cellv : ∀ (x : List AV) F (k : Nat), RWc w bl.b (i * bl.sz) x F → k ≤ x.length → ∃ G, RWc w bl.b (i * bl.sz + k) (x.drop k) G := by
        intro x F k hr hk
        rw [← List.take_append_drop k x, RWc_app] at hr
        obtain ⟨F1, F2, -, -, h2⟩ := hr
        rw [show (x.take k).length = k by simp; omega] at h2
        exact ⟨F2, h2⟩
      split at h
      · rename_i hag
        cases h
        refine ⟨rfl, ?_⟩
        obtain ⟨hsz, hsc⟩ := hc
        have hh : ∃ vs : List Value, vs.length = inf.size ∧ Rv1s w I β (((xs.getD i []).drop f).take inf.size) vs ∧ ∀ (j : Nat) v, vs[j]? = some v → w.cell? ⟨bl.b, i * bl.sz + f + j, none⟩ = some v := by
          by_cases h0 : inf.size = 0
          · rw [h0]; exact ⟨[], rfl, by simp [Rv1s], by simp⟩
          · cases hq : xs[i]? with
            | none =>
              rw [List.getD_eq_getElem?_getD, hq] at hsz
              simp at hsz; omega
            | some x =>
              have e : xs.getD i [] = x := by rw [List.getD_eq_getElem?_getD, hq]; rfl
              rw [e] at hsz hsc ⊢
              obtain ⟨F, h1, h2⟩ := key x hq
              have hfl : f ≤ x.length := by simp at hsz; omega
              obtain ⟨G, h3⟩ := cellv x F f h2 hfl
              rw [← List.take_append_drop inf.size (x.drop f), RWc_app] at h3
              obtain ⟨G1, G2, -, h4, -⟩ := h3
              obtain ⟨h5, -⟩ := RWc_RJc (I := I) (β := β) _ _ _ hsc h4
              obtain ⟨vs, k1, k2, k3⟩ := Rcs_vals _ _ (RJc_Rcs _ _ h5)
              exact ⟨vs, by rw [k1, List.length_take]; omega, k2, k3⟩
        obtain ⟨vs, hl, hvs, hcell⟩ := hh
        refine ⟨.agg ⟨vs⟩, ?_, ⟨vs, rfl, hvs⟩⟩
        have hload := run_loadCells_list (P := P) w ⟨bl.b, i * bl.sz + f, none⟩ vs (fun j v hv => by rw [Addr.add_lit]; exact hcell j v hv)
        rw [hl] at hload
        simp [Instr.loadAt, Instr.sureAddr, loadVar, aggOf_run hd, hag, sizeOf, typeInfo, hi, hload]
      · rename_i hag
        have hag' : aggOf d = false := by simpa using hag
        have one : ∀ c r, (xs.getD i []).drop f = c :: r → scal0 c = true → ∃ y, (Instr.loadAt t (.pointer (some ⟨bl.b, i * bl.sz + f, none⟩))).run P w = .ok y w ∧ Rv w I β c y := by
          intro c r e hs
          obtain ⟨x, hq, e⟩ := hxi c r e
          obtain ⟨F, h1, h2⟩ := key x hq
          have hfl : f ≤ x.length := by
            apply Classical.byContradiction
            intro hh
            rw [List.drop_of_length_le (by omega)] at e
            cases e
          obtain ⟨G, h3⟩ := cellv x F f h2 hfl
          rw [e, RWc] at h3
          obtain ⟨G1, G2, -, ⟨y, hy, hw⟩, -⟩ := h3
          obtain ⟨k1, -, -⟩ := scal0_Rv (I := I) (β := β) c y G1 hs hw
          exact ⟨y, by simp [Instr.loadAt, Instr.sureAddr, loadVar, aggOf_run hd, hag', hy], Rv1_Rv _ _ k1⟩
        split at h
        · rename_i v0 r0 e; cases h; exact ⟨rfl, one _ _ e rfl⟩
        · rename_i v0 r0 e; cases h; exact ⟨rfl, one _ _ e rfl⟩
        · cases h
theorem loadO_sound (hC : Conc C st a w I β φ) {t : TypeId} {av v : AV} {x : Value} {c : Prop} {u : Ups} (hx : Rv w I β av x) (h : aLoadO P st t av = some (c, v, u)) (hc : c) :
    u = [] ∧ ∃ y, (Instr.loadAt t x).run P w = .ok y w ∧ Rv w I β v y := by
  unfold aLoadO at h
  split at h
  · rename_i T n i f hT
    split at h
    · rename_i sz xs hob; exact ldO_sound hC hT (.inl hob) hx h hc
    · rename_i sz xs hs hob; exact ldO_sound hC hT (.inr ⟨hs, hob⟩) hx h hc
    · cases h
  · cases h
/-- A nested row is looked at: its value is known from now on. -/
theorem nest_sound (hC : Conc C st a w I β φ) {t : TypeId} {T : TI} (hT : ti P t = some T) (hag : T.agg = false) {n i f sz : Nat} {xs : List (List AV)} {hs : List (Nat × Nat × Value)} (hob : (st.ob n = some (.own sz xs) ∧ hs = []) ∨ st.ob n = some (.ownh sz xs hs)) {x : Value} (hx : Rv w I β (.eptr n i f) x)
    {s : Nat} {ys : List (List AV)} {r : List AV} (e : (xs.getD i []).drop f = .sl s ys :: r) :
    ∃ v, (Instr.loadAt t x).run P w = .ok v w ∧ Conc C { st with ob := upd st.ob n (some (.ownh sz xs ((i, f, v) :: hs))) } a w I β φ := by
  obtain ⟨d, inf, z, hd, hi, hz, rfl⟩ := ti_spec hT
  simp only at hag
  have hro : ∃ bl, β n = some bl ∧ bl.sz = sz ∧ bl.o = 0 ∧ xs.length ≤ bl.cap ∧ (φ n).Nodup ∧ ((bl.cap = 0 ∧ φ n = []) ∨ ∃ F', φ n = bl.b :: F' ∧ OwnW w bl.b 0 (bl.cap * sz) ∧ RWe w bl.b sz 0 xs F' ∧ ∀ h ∈ hs, w.cell? ⟨bl.b, h.1 * sz + h.2.1, none⟩ = some h.2.2) := by
    rcases hob with ⟨h, rfl⟩ | h
    · obtain ⟨bl, g1, g2, g3, g4, g5, g6⟩ := hC.ob _ _ h
      exact ⟨bl, g1, g2, g3, g4, g5, g6.imp id fun ⟨F', k1, k2, k3⟩ => ⟨F', k1, k2, k3, by simp⟩⟩
    · exact hC.ob _ _ h
  have hY : ∀ b ∈ φ n, ¬ C.Y b := by
    rcases hob with ⟨h, -⟩ | h
    · exact hC.wok _ _ h rfl
    · exact hC.wok _ _ h rfl
  have hne : st.ob n ≠ none := by rcases hob with ⟨h, -⟩ | h <;> rw [h] <;> simp
  obtain ⟨bl, g1, g2, g3, g4, g5, g6⟩ := hro
  obtain ⟨bl', hb', rfl⟩ := hx
  rw [g1] at hb'; cases hb'
  subst g2
  obtain ⟨hlt, e⟩ : ∃ h : i < xs.length, xs[i].drop f = .sl s ys :: r := by
    rw [List.getD_eq_getElem?_getD] at e
    cases hq : xs[i]? with
    | none => rw [hq] at e; simp at e
    | some x =>
      obtain ⟨h1, h2⟩ := List.getElem?_eq_some_iff.1 hq
      rw [hq] at e
      exact ⟨h1, by rw [h2]; exact e⟩
  have hfl : f ≤ xs[i].length := by
    apply Classical.byContradiction
    intro hh
    rw [List.drop_of_length_le (by omega)] at e
    cases e
  rcases g6 with ⟨g6, -⟩ | ⟨F', k1, k2, k3, k4⟩
  · omega
  obtain ⟨F1, Fx, F2, -, -, h2, h3, -⟩ := (RWe_at hlt).1 k3
  rw [← List.take_append_drop f xs[i], RWc_app] at h3
  obtain ⟨G1, G2, -, -, h4⟩ := h3
  rw [show (xs[i].take f).length = f by simp; omega, e, RWc] at h4
  obtain ⟨H1, H2, -, ⟨v, hv, -⟩, -⟩ := h4
  refine ⟨v, ?_, hC.write (w' := w) _ hne (by simp) hY (Evo.refl _ w) ⟨bl, g1, rfl, g3, g4, g5, .inr ⟨F', k1, k2, k3, ?_⟩⟩⟩
  · rw [g3, Nat.zero_add]
    simp [Instr.loadAt, Instr.sureAddr, loadVar, aggOf_run hd, hag, hv]
  · intro h hh
    rcases List.mem_cons.1 hh with rfl | hh
    · exact hv
    · exact k4 h hh
theorem nodup_mid2 {b : Nat} {F1 Fa Fo Fb F2 Fn : List Nat} (h : (b :: (F1 ++ ((Fa ++ (Fo ++ Fb)) ++ F2))).Nodup) (hn : Fn.Nodup) (hd : ∀ x ∈ Fn, x ∈ Fo ∨ x ∉ b :: (F1 ++ ((Fa ++ (Fo ++ Fb)) ++ F2))) : (b :: (F1 ++ ((Fa ++ (Fn ++ Fb)) ++ F2))).Nodup := by
  simp only [List.nodup_cons, List.nodup_append, List.mem_append, List.mem_cons, not_or] at h hd ⊢
  grind
/-- A call that is handed a nested row to write. -/
def PStep (P : Program) (st : St) (f : FuncId) (actual : List AV) (v : AV) (u : Ups) : Prop :=
  ∃ (n sz : Nat) (xs : List (List AV)) (hs : List (Nat × Nat × Value)) (i f0 : Nat) (w0 : Value) (s : Nat) (ys ys' : List (List AV)) (rest : List AV) (r : AV),
    st.ob n = some (.ownh sz xs hs) ∧ (i, f0, w0) ∈ hs ∧ actual = .g w0 :: rest ∧ rest.all scal2 = true ∧ (∃ x, xs[i]? = some x ∧ x[f0]? = some (.sl s ys)) ∧ XCall P f (.arr 8 0 ys.length :: rest) [.own s ys] r [.own s ys'] [] ∧ ys'.length = ys.length ∧ scal r = true ∧
    v = r ∧ u = [(n, .ownh sz (xs.set i ((xs.getD i []).set f0 (.sl s ys'))) hs)]
theorem pstep_sound (hC : Conc C st a w I β φ) {f : FuncId} {actual : List AV} {vs : List Value} {v : AV} {u : Ups} (hvs : Rv2s w I β actual vs) (h : PStep P st f actual v u) :
    Calls P f ⟨vs⟩ w fun e w' => ∃ y I' β' φ', e = .returned y ∧ Rv w' I' β' v y ∧ Conc C { st with ob := updL st.ob u } a w' I' β' φ' := by
  obtain ⟨n, sz, xs, hs, i, f0, w0, s, ys, ys', rest, r, hob, hmem, rfl, hrest, ⟨x, hxi, hxf⟩, hX, hyl, hsc, rfl, rfl⟩ := h
  obtain ⟨v0, vs', rfl, hv0, hvr⟩ := hvs
  cases hv0
  obtain ⟨bl, g1, g2, g3, g4, g5, g6⟩ := hC.ob _ _ hob
  have hY := hC.wok _ _ hob rfl
  subst g2
  obtain ⟨hlt, rfl⟩ := List.getElem?_eq_some_iff.1 hxi
  obtain ⟨hf0, hfe⟩ := List.getElem?_eq_some_iff.1 hxf
  rcases g6 with ⟨g6, -⟩ | ⟨F', k1, k2, k3, k4⟩
  · omega
  obtain ⟨F1, Fx, F2, rfl, r1, r2, r3, r4⟩ := (RWe_at hlt).1 k3
  rw [list_at xs[i] f0 hf0, RWc_app] at r3
  obtain ⟨Fa, Fr, rfl, s1, s2⟩ := r3
  have ltake : (xs[i].take f0).length = f0 := by simp; omega
  rw [ltake, RWc, hfe] at s2
  obtain ⟨Fc, Fb, rfl, ⟨v1, hv1, hw1⟩, s3⟩ := s2
  have hcell := k4 _ hmem
  simp only at hcell
  rw [hv1] at hcell
  cases hcell
  rw [k1] at g5
  have hFcn : Fc.Nodup := by
    have := g5
    simp only [List.nodup_cons, List.nodup_append] at this
    exact this.2.2.1.1.2.1.1
  -- the callee's row
  obtain ⟨blc, hc1, hc2, hc3, hc4, hc5, hc6⟩ : ∃ blc : Bl, blc.sz = s ∧ blc.o = 0 ∧ ys.length ≤ blc.cap ∧ ((blc.cap = 0 ∧ Fc = []) ∨ ∃ F', Fc = blc.b :: F' ∧ OwnW w blc.b 0 (blc.cap * s) ∧ RWe w blc.b s 0 ys F') ∧
      (w0 = .slice (some ⟨blc.b, blc.o + 0 * blc.sz, none⟩) ys.length (blc.cap - 0) ∨ (0 = blc.cap ∧ ∃ a, w0 = .slice a 0 0)) ∧
      ∀ (w' : World) (G : List Nat), G.Nodup → ((blc.cap = 0 ∧ G = []) ∨ ∃ G', G = blc.b :: G' ∧ OwnW w' blc.b 0 (blc.cap * s) ∧ RWe w' blc.b s 0 ys' G') → ys'.length ≤ blc.cap → ∃ G2, G2.Nodup ∧ (∀ b ∈ G2, b ∈ G) ∧ RW w' (.sl s ys') w0 G2 := by
    rw [RW] at hw1
    obtain ⟨a0, cap, rfl, hle, ⟨rfl, rfl, rfl⟩ | ⟨b2, F', rfl, rfl, hw2, hw3⟩⟩ := hw1
    · refine ⟨⟨0, 0, s, 0⟩, rfl, rfl, by simp, .inl ⟨rfl, rfl⟩, .inr ⟨rfl, a0, rfl⟩, ?_⟩
      intro w' G _ _ hl
      have hy : ys' = [] := List.length_eq_zero_iff.1 (by simpa using hyl)
      subst hy
      refine ⟨[], by simp, by simp, ?_⟩
      rw [RW]
      exact ⟨a0, 0, rfl, by simp, .inl ⟨rfl, rfl, rfl⟩⟩
    · refine ⟨⟨b2, 0, s, cap⟩, rfl, rfl, hle, .inr ⟨F', rfl, hw2, hw3⟩, .inl (by simp), ?_⟩
      intro w' G hGn hG hl
      rcases hG with ⟨h1, rfl⟩ | ⟨G', rfl, h2, h3⟩
      · have hy : ys' = [] := List.length_eq_zero_iff.1 (by simp at h1 hl; omega)
        subst hy
        simp only at h1
        refine ⟨[], by simp, by simp, ?_⟩
        rw [RW]
        exact ⟨_, cap, by rw [← hyl], by simp, .inl ⟨rfl, h1, rfl⟩⟩
      · refine ⟨_, hGn, fun b hb => hb, ?_⟩
        rw [RW]
        exact ⟨_, cap, by rw [hyl], by rw [hyl]; exact hle, .inr ⟨b2, G', rfl, rfl, h2, h3⟩⟩
  obtain ⟨-, -, -, -, hcall⟩ := hX
  have hp8 : ∀ k o, postOb [OB.own s ys] [] k = some o → k = 8 ∧ o = .own s ys := by
    intro k o h
    unfold postOb at h
    split at h
    · split at h
      · cases h
      · have := (List.getElem?_eq_some_iff.1 h).1
        have hk : k = 8 := by simp at this; omega
        subst hk
        cases h; exact ⟨rfl, rfl⟩
    · simp at h
  let βc : Beta := fun k => if k = 8 then some blc else none
  let χ : Nat → List Nat := fun k => if k = 8 then Fc else []
  have hχm : ∀ k b, b ∈ χ k → k = 8 ∧ b ∈ Fc := by
    intro k b hb
    simp only [χ] at hb
    split at hb
    · rename_i h; exact ⟨h, hb⟩
    · simp at hb
  have hFcφ : ∀ b ∈ Fc, b ∈ φ n := fun b hb => by rw [k1]; simp [hb]
  have hc := hcall w I βc χ (w0 :: vs') hC.immLt ⟨w0, vs', rfl, ⟨blc, by simp [βc], by omega, hc5⟩, scal2s_Rv rest vs' hrest hvr⟩ (fun k hk => by
      have : k ≠ 8 := by rintro rfl; simp [postOb] at hk
      simp [βc, χ, this]) (fun k o ho => by
      obtain ⟨rfl, rfl⟩ := hp8 k o ho
      show RO w I βc 8 (.own s ys) (χ 8)
      simp only [χ, if_true]
      exact ⟨blc, by simp [βc], hc1, hc2, hc3, hFcn, hc4⟩) (fun k l hkl b hb hb' => by
      obtain ⟨rfl, -⟩ := hχm k b hb
      obtain ⟨rfl, -⟩ := hχm l b hb'
      exact hkl rfl) (fun k b hb => by
      obtain ⟨-, hb⟩ := hχm k b hb
      exact ⟨hC.nimm n b (hFcφ b hb), (hC.flt n b (hFcφ b hb)).1⟩)
  refine hc.mono ?_
  rintro e w' ⟨y, I', β', χ', rfl, hev, hII, hIn, hy, hβ, -, hpo, -, hχn⟩
  have hro8 := hpo 8 (.own s ys') (by simp [postOb])
  obtain ⟨bl8, e1, e2, e3, e4, e5, e6⟩ := hro8
  have : bl8 = blc := by
    have := hβ 8 blc (by simp [βc])
    rw [e1] at this; cases this; rfl
  subst this
  obtain ⟨G2, q1, q2, q3⟩ := hc6 w' (χ' 8) e5 e6 e4
  have hG : ∀ b ∈ G2, b ∈ Fc ∨ (w.heap.size ≤ b ∧ b < w'.heap.size) := by
    intro b hb
    obtain ⟨p1, p2, p3⟩ := hχn 8 b (q2 b hb)
    rcases p3 with ⟨m, hm⟩ | p3
    · exact .inl (hχm m b hm).2
    · exact .inr ⟨p3, p2⟩
  have hevn : Evo (· ∈ Fc) w w' := hev.mono fun b _ ⟨m, hb⟩ => (hχm m b hb).2
  have hold : ∀ b, b ∈ bl.b :: (F1 ++ ((Fa ++ (Fc ++ Fb)) ++ F2)) → b < w.heap.size := fun b hb => (hC.flt n b (by rw [k1]; exact hb)).1
  have hnd := nodup_mid2 g5 q1 (fun b hb => by
    rcases hG b hb with h | h
    · exact .inl h
    · right; intro hh; have := hold b hh; omega)
  have hnotc : ∀ b, b ∈ bl.b :: (F1 ++ ((Fa ++ ([] ++ Fb)) ++ F2)) → b ∉ Fc := by
    intro b hb hb'
    have := g5
    simp only [List.nodup_cons, List.nodup_append, List.mem_append, List.mem_cons, List.nil_append, not_or] at this hb
    grind
  have hsame : ∀ b, b ∈ bl.b :: (F1 ++ ((Fa ++ ([] ++ Fb)) ++ F2)) → w'.heap[b]? = w.heap[b]? := by
    intro b hb
    refine hevn.blk b (hold b ?_) (hnotc b hb)
    simp only [List.mem_append, List.mem_cons, List.nil_append] at hb ⊢
    grind
  have hbb : w'.heap[bl.b]? = w.heap[bl.b]? := hsame _ (by simp)
  have hgd : xs.getD i [] = xs[i] := by simp [List.getD, hlt]
  have hro : RO w' I β n (.ownh bl.sz (xs.set i (xs[i].set f0 (.sl s ys'))) hs) (bl.b :: (F1 ++ ((Fa ++ (G2 ++ Fb)) ++ F2))) := by
    refine ⟨bl, g1, rfl, g3, by simpa using g4, hnd, .inr ⟨_, rfl, OwnW_eq hbb k2, ?_, fun h hh => by rw [cell?_of_heap hbb]; exact k4 h hh⟩⟩
    refine RWe_set hlt ?_ (by simpa using r2) ?_ ?_
    · exact RWe_mono _ hbb _ _ _ _ (fun d hd => hsame d (by simp [hd])) r1
    · rw [List.set_eq_take_append_cons_drop, if_pos hf0, RWc_app, ltake]
      refine ⟨Fa, G2 ++ Fb, rfl, RWc_mono _ hbb _ _ _ (fun d hd => hsame d (by simp [hd])) s1, ?_⟩
      rw [RWc]
      exact ⟨G2, Fb, rfl, ⟨w0, by rw [cell?_of_heap hbb]; exact hv1, q3⟩, RWc_mono _ hbb _ _ _ (fun d hd => hsame d (by simp [hd])) s3⟩
    · exact RWe_mono _ hbb _ _ _ _ (fun d hd => hsame d (by simp [hd])) r4
  have hnew : ∀ b ∈ bl.b :: (F1 ++ ((Fa ++ (G2 ++ Fb)) ++ F2)), b ∈ φ n ∨ (w.heap.size ≤ b ∧ b < w'.heap.size) := by
    intro b hb
    rw [k1]
    simp only [List.mem_append, List.mem_cons] at hb ⊢
    rcases hb with hb | hb | (hb | hb | hb) | hb
    · exact .inl (by simp [hb])
    · exact .inl (by simp [hb])
    · exact .inl (by simp [hb])
    · rcases hG b hb with h | h
      · exact .inl (by simp [h])
      · exact .inr h
    · exact .inl (by simp [hb])
    · exact .inl (by simp [hb])
  refine ⟨y, I, β, upd φ n (bl.b :: (F1 ++ ((Fa ++ (G2 ++ Fb)) ++ F2))), rfl, scal_Rv _ _ hsc hy, ?_⟩
  rw [hgd]
  have hdom : ∀ k, upd st.ob n (some (OB.ownh bl.sz (xs.set i (xs[i].set f0 (.sl s ys'))) hs)) k = none → k ≠ n ∧ st.ob k = none := by
    intro k hk
    by_cases h : k = n
    · subst h; simp [upd_same] at hk
    · rw [upd_other _ _ h] at hk; exact ⟨h, hk⟩
  have hm : ∀ k b, b ∈ upd φ n (bl.b :: (F1 ++ ((Fa ++ (G2 ++ Fb)) ++ F2))) k → (k = n ∧ (b ∈ φ n ∨ (w.heap.size ≤ b ∧ b < w'.heap.size))) ∨ (k ≠ n ∧ b ∈ φ k) := by
    intro k b hb
    by_cases h : k = n
    · subst h; rw [upd_same] at hb; exact .inl ⟨rfl, hnew b hb⟩
    · rw [upd_other _ _ h] at hb; exact .inr ⟨h, hb⟩
  show Conc C { st with ob := upd st.ob n _ } a w' I β _
  refine hC.move (· ∈ Fc) hevn (fun b hb => ⟨n, hFcφ b hb, hY b (hFcφ b hb)⟩) (fun _ hb => hb) (fun _ hb => .inl hb) (fun _ _ hb => hb) ?_ (fun k hk => hC.dom k (hdom k hk).2) ?_ ?_ ?_ ?_ ?_ ?_
  · intro k o ho
    by_cases h : k = n
    · subst h
      simp only [upd_same, Option.some.injEq] at ho ⊢
      subst ho
      exact .inr hro
    · rw [upd_other _ _ h] at ho
      exact .inl ⟨ho, upd_other _ _ h, fun b hb hb' => hC.sep k n h b hb (hFcφ b hb')⟩
  · intro k hk
    rw [upd_other _ _ (hdom k hk).1]; exact hC.fdom k (hdom k hk).2
  · intro k l hkl b hb hb'
    rcases hm k b hb with ⟨rfl, h1⟩ | ⟨h1, h2⟩
    · rcases hm l b hb' with ⟨rfl, -⟩ | ⟨h3, h4⟩
      · exact hkl rfl
      · rcases h1 with h1 | h1
        · exact hC.sep k l hkl b h1 h4
        · have := (hC.flt l b h4).1; omega
    · rcases hm l b hb' with ⟨rfl, h3⟩ | ⟨h3, h4⟩
      · rcases h3 with h3 | h3
        · exact hC.sep k l hkl b h2 h3
        · have := (hC.flt k b h2).1; omega
      · exact hC.sep k l hkl b h2 h4
  · intro k b hb hi
    rcases hm k b hb with ⟨rfl, h1 | h1⟩ | ⟨-, h2⟩
    · exact hC.nimm k b h1 hi
    · have := hC.immLt b hi; omega
    · exact hC.nimm k b h2 hi
  · intro k b hb
    rcases hm k b hb with ⟨rfl, h1 | h1⟩ | ⟨-, h2⟩
    · exact ⟨Nat.lt_of_lt_of_le (hC.flt k b h1).1 hev.size, (hC.flt k b h1).2⟩
    · exact ⟨h1.2, .inr (.inr (Nat.le_trans hC.evo.size h1.1))⟩
    · exact ⟨Nat.lt_of_lt_of_le (hC.flt k b h2).1 hev.size, (hC.flt k b h2).2⟩
  · intro k o ho hwr b hb
    rcases hm k b hb with ⟨rfl, h1 | h1⟩ | ⟨h1, h2⟩
    · exact hY b h1
    · intro hy
      have := hC.ylt b hy
      have := hC.evo.size
      omega
    · rw [upd_other _ _ h1] at ho; exact hC.wok k o ho hwr b h2
  · intro k s2 xs2 ho b hb
    rcases hm k b hb with ⟨rfl, -⟩ | ⟨h1, h2⟩
    · simp [upd_same] at ho
    · rw [upd_other _ _ h1] at ho; exact hC.fnew k s2 xs2 ho b h2
theorem nestL_sound (hC : Conc C st a w I β φ) {t : TypeId} {av : AV} {x : Value} {n : Nat} {g : Value → OB} (hx : Rv w I β av x) (h : nestL P st t av = some (n, g)) :
    ∃ v, (Instr.loadAt t x).run P w = .ok v w ∧ Conc C { st with ob := upd st.ob n (some (g v)) } a w I β φ := by
  unfold nestL at h
  split at h
  · rename_i n' i f
    have key : ∀ sz xs hs, (st.ob n' = some (.own sz xs) ∧ hs = []) ∨ st.ob n' = some (.ownh sz xs hs) → nestC P t n' i f sz xs hs = some (n, g) → ∃ v, (Instr.loadAt t x).run P w = .ok v w ∧ Conc C { st with ob := upd st.ob n (some (g v)) } a w I β φ := by
      intro sz xs hs hob h
      unfold nestC at h
      split at h
      · rename_i T hT
        split at h
        · cases h
        · rename_i hag
          split at h
          · rename_i s ys r e
            cases h
            exact nest_sound hC hT (by simpa using hag) hob hx e
          · cases h
      · cases h
    split at h
    · rename_i sz xs hob; exact key sz xs [] (.inl ⟨hob, rfl⟩) h
    · rename_i sz xs hs hob; exact key sz xs hs (.inr hob) h
    · cases h
  · cases h
end
end Go.Proofs.Ytmcekkllkfccjaa.Vs

end
section
open Go
namespace Go.Proofs.Ytmcekkllkfccjaa.Vs
set_option linter.unusedVariables false
set_option linter.unusedSimpArgs false
set_option linter.unusedSectionVars false
set_option linter.unnecessarySimpa false
set_option linter.all false
set_option linter.unusedSimpArgs false
set_option linter.unusedVariables false
/-! ### Append of one element, whose rows are its own, to an own row -/
def elO (st : St) (x : AV) : Option (Nat × Nat × List AV × List AV) :=
  match x with
  | .arr m 0 1 => match st.ob m with
    | some (.win sx [y]) => match swl st y with
      | some y' => some (m, sx, y, y')
      | none => none
    | _ => none
  | _ => none
theorem elO_spec {st : St} {x : AV} {m sx : Nat} {y y' : List AV} (h : elO st x = some (m, sx, y, y')) : x = .arr m 0 1 ∧ st.ob m = some (.win sx [y]) ∧ swl st y = some y' := by
  unfold elO at h
  split at h
  · split at h
    · split at h
      · cases h; exact ⟨rfl, by assumption, by assumption⟩
      · cases h
    · cases h
  · cases h
def aAppendO (P : Program) (st : St) (nm : Nat) (ts : List TypeId) (s x : AV) : ARes :=
  match ts with
  | [t, u] => match ti P t with
    | some T => match T.kind with
      | .slice e => match ti P e with
        | some E => match elO st x with
          | some (m, sx, y, y') => match s with
            | .arr n 0 len => match st.ob n with
              | some (.own sz xs) => if sz = E.size ∧ sx = E.size then some ((st.ob nm).isNone = true ∧ t = u ∧ 0 < E.size ∧ E.zero.length = E.size ∧ (n :: m :: arrN y).Nodup ∧ len = xs.length ∧ (len + 1) * E.bytes ≤ 2 ^ 47 ∧ len + 1 < 2 ^ 62,
                  .arr nm 0 (len + 1), (n :: m :: arrN y).map (fun d => (d, OB.dead)) ++ [(nm, .own E.size (xs ++ [y']))]) else none
              | _ => none
            | _ => none
          | none => none
        | none => none
      | _ => none
    | none => none
  | _ => none
theorem RWc_mov {w w' : World} {b b' : Nat} : ∀ (cs : List AV) (o : Nat) (F : List Nat), (∀ j, j < cs.length → w'.cell? ⟨b', o + j, none⟩ = w.cell? ⟨b, o + j, none⟩) → (∀ c ∈ F, w'.heap[c]? = w.heap[c]?) → RWc w b o cs F → RWc w' b' o cs F
  | [], o, F, _, _, h => by simpa [RWc] using h
  | c :: cs, o, F, hc, hF, h => by
    rw [RWc] at h ⊢
    obtain ⟨F1, F2, rfl, ⟨v, h1, h2⟩, h3⟩ := h
    refine ⟨F1, F2, rfl, ⟨v, ?_, RW_mono _ _ F1 (fun d hd => hF d (by simp [hd])) h2⟩, RWc_mov cs (o + 1) F2 (fun j hj => ?_) (fun d hd => hF d (by simp [hd])) h3⟩
    · have := hc 0 (by simp); rw [Nat.add_zero] at this; rw [this]; exact h1
    · have := hc (j + 1) (by simpa using hj); rwa [show o + (j + 1) = o + 1 + j by omega] at this
theorem RWe_mov {w w' : World} {b b' sz : Nat} : ∀ (xs : List (List AV)) (o : Nat) (F : List Nat), (∀ j, j < xs.length * sz → w'.cell? ⟨b', o + j, none⟩ = w.cell? ⟨b, o + j, none⟩) → (∀ c ∈ F, w'.heap[c]? = w.heap[c]?) → RWe w b sz o xs F → RWe w' b' sz o xs F
  | [], o, F, _, _, h => by simpa [RWe] using h
  | x :: xs, o, F, hc, hF, h => by
    rw [RWe] at h ⊢
    obtain ⟨F1, F2, rfl, h0, h1, h2⟩ := h
    refine ⟨F1, F2, rfl, h0, RWc_mov x o F1 (fun j hj => hc j ?_) (fun d hd => hF d (by simp [hd])) h1, RWe_mov xs (o + sz) F2 (fun j hj => ?_) (fun d hd => hF d (by simp [hd])) h2⟩
    · rw [List.length_cons, Nat.add_mul]; omega
    · have := hc (sz + j) (by rw [List.length_cons, Nat.add_mul]; omega); rwa [show o + (sz + j) = o + sz + j by omega] at this
theorem RWc_cell {w : World} {b : Nat} : ∀ (cs : List AV) (o : Nat) (F : List Nat), RWc w b o cs F → ∃ os : List Value, os.length = cs.length ∧ ∀ (j : Nat) v, os[j]? = some v → w.cell? ⟨b, o + j, none⟩ = some v
  | [], o, F, _ => ⟨[], rfl, by simp⟩
  | c :: cs, o, F, h => by
    rw [RWc] at h
    obtain ⟨F1, F2, rfl, ⟨v, h1, h2⟩, h3⟩ := h
    obtain ⟨os, g1, g2⟩ := RWc_cell cs (o + 1) F2 h3
    refine ⟨v :: os, by simp [g1], fun j u hu => ?_⟩
    cases j with
    | zero => simp at hu; subst hu; exact h1
    | succ j => have := g2 j u (by simpa using hu); rwa [show o + (j + 1) = o + 1 + j by omega]
theorem RWe_cell {w : World} {b sz : Nat} : ∀ (xs : List (List AV)) (o : Nat) (F : List Nat), RWe w b sz o xs F → ∃ os : List Value, os.length = xs.length * sz ∧ ∀ (j : Nat) v, os[j]? = some v → w.cell? ⟨b, o + j, none⟩ = some v
  | [], o, F, _ => ⟨[], by simp, by simp⟩
  | x :: xs, o, F, h => by
    rw [RWe] at h
    obtain ⟨F1, F2, rfl, h0, h1, h2⟩ := h
    obtain ⟨os, g1, g2⟩ := RWc_cell x o F1 h1
    obtain ⟨qs, k1, k2⟩ := RWe_cell xs (o + sz) F2 h2
    refine ⟨os ++ qs, by rw [List.length_append, g1, k1, h0, List.length_cons, Nat.add_mul]; omega, fun j u hu => ?_⟩
    by_cases hj : j < os.length
    · rw [List.getElem?_append_left hj] at hu; exact g2 j u hu
    · rw [List.getElem?_append_right (by omega)] at hu
      have := k2 _ u hu
      rwa [show o + sz + (j - os.length) = o + j by omega] at this
section
variable {P : Program} {C : Cx} {st : St} {a : Act} {w : World} {I : Nat → Prop} {β : Beta} {φ : Nat → List Nat}
/-- An object is handed on to a new name. -/
theorem Conc.renameG (hC : Conc C st a w I β φ) {n nm : Nat} {o o' : OB} (hob : st.ob n = some o) (hwr : o.wr = true) (hof : ∀ sz xs, o' ≠ .flat sz xs) (hn : st.ob nm = none) {bl : Bl} (hbl : β n = some bl)
    (hro : RO w I (upd β nm (some bl)) nm o' (φ n)) :
    Conc C { st with ob := upd (upd st.ob n (some .dead)) nm (some o') } a w I (upd β nm (some bl)) (upd (upd φ n []) nm (φ n)) := by
  have hne : n ≠ nm := by rintro rfl; rw [hob] at hn; cases hn
  have hβn : β nm = none := hC.dom nm hn
  have hφ : ∀ m b, b ∈ upd (upd φ n []) nm (φ n) m → (m = nm ∧ b ∈ φ n) ∨ (m ≠ nm ∧ m ≠ n ∧ b ∈ φ m) := by
    intro m b hb
    by_cases h1 : m = nm
    · subst h1; rw [upd_same] at hb; exact .inl ⟨rfl, hb⟩
    · rw [upd_other _ _ h1] at hb
      by_cases h2 : m = n
      · subst h2; simp [upd_same] at hb
      · rw [upd_other _ _ h2] at hb; exact .inr ⟨h1, h2, hb⟩
  have hdom : ∀ m, upd (upd st.ob n (some OB.dead)) nm (some o') m = none → m ≠ nm ∧ m ≠ n ∧ st.ob m = none := by
    intro m ho
    by_cases h1 : m = nm
    · subst h1; simp [upd_same] at ho
    · rw [upd_other _ _ h1] at ho
      by_cases h2 : m = n
      · subst h2; simp [upd_same] at ho
      · rw [upd_other _ _ h2] at ho; exact ⟨h1, h2, ho⟩
  refine hC.move (fun _ => False) (Evo.refl _ w) (fun b hb => hb.elim) (fun _ hb => hb) (fun _ hb => .inl hb) ?_ ?_ ?_ ?_ ?_ ?_ ?_ ?_ ?_
  · intro m bl' hb
    rw [upd_other]
    · exact hb
    · rintro rfl; rw [hβn] at hb; cases hb
  · intro m p ho
    by_cases h1 : m = nm
    · subst h1
      simp only [upd_same, Option.some.injEq] at ho ⊢
      subst ho
      exact .inr hro
    · rw [upd_other _ _ h1] at ho
      by_cases h2 : m = n
      · subst h2
        simp only [upd_same, Option.some.injEq] at ho
        subst ho
        exact .inr (by rw [upd_other _ _ h1, upd_same]; rfl)
      · rw [upd_other _ _ h2] at ho
        exact .inl ⟨ho, by rw [upd_other _ _ h1, upd_other _ _ h2], fun b hb hb' => hb'⟩
  · intro m ho
    obtain ⟨h1, h2, h3⟩ := hdom m ho
    rw [upd_other _ _ h1]; exact hC.dom m h3
  · intro m ho
    obtain ⟨h1, h2, h3⟩ := hdom m ho
    rw [upd_other _ _ h1, upd_other _ _ h2]; exact hC.fdom m h3
  · intro m k hmk b hb hb'
    rcases hφ m b hb with ⟨rfl, h1⟩ | ⟨h1, h2, h3⟩
    · rcases hφ k b hb' with ⟨rfl, -⟩ | ⟨-, h5, h6⟩
      · exact hmk rfl
      · exact hC.sep n k (Ne.symm h5) b h1 h6
    · rcases hφ k b hb' with ⟨rfl, h4⟩ | ⟨-, -, h6⟩
      · exact hC.sep m n h2 b h3 h4
      · exact hC.sep m k hmk b h3 h6
  · intro m b hb
    rcases hφ m b hb with ⟨-, h1⟩ | ⟨-, -, h3⟩
    · exact hC.nimm n b h1
    · exact hC.nimm m b h3
  · intro m b hb
    rcases hφ m b hb with ⟨-, h1⟩ | ⟨-, -, h3⟩
    · exact hC.flt n b h1
    · exact hC.flt m b h3
  · intro m cs ho hwr' b hb
    rcases hφ m b hb with ⟨rfl, h1⟩ | ⟨h1, h2, h3⟩
    · exact hC.wok n _ hob hwr b h1
    · rw [upd_other _ _ h1, upd_other _ _ h2] at ho
      exact hC.wok m cs ho hwr' b h3
  · intro m s ys ho b hb
    rcases hφ m b hb with ⟨rfl, h1⟩ | ⟨h1, h2, h3⟩
    · simp only [upd_same, Option.some.injEq] at ho; exact (hof _ _ ho).elim
    · rw [upd_other _ _ h1, upd_other _ _ h2] at ho
      exact hC.fnew m _ _ ho b h3
theorem updL_deadN {ob : Nat → Option OB} (D : List Nat) (nm : Nat) (o o' : OB) : updL (upd ob nm (some o)) (D.map (fun d => (d, OB.dead)) ++ [(nm, o')]) = updL ob (D.map (fun d => (d, OB.dead)) ++ [(nm, o')]) := by
  funext k
  rw [updL_append, updL_append, updL_cons, updL_nil, updL_cons, updL_nil]
  by_cases h : k = nm
  · subst h; simp [upd_same]
  · rw [upd_other _ _ h, upd_other _ _ h, updL_dead, updL_dead]
    split
    · rfl
    · rw [upd_other _ _ h]
/-- A new block that takes in what others held. -/
theorem growO (hC : Conc C st a w I β φ) {nm : Nat} (hn : st.ob nm = none) {e : TypeId} {sz cap : Nat} (arr : Array Value) {D : List Nat} {zs : List (List AV)} {F : List Nat} (hD : ∀ d ∈ D, st.ob d ≠ none) (hDY : ∀ d ∈ D, ∀ b ∈ φ d, ¬ C.Y b)
    (hFD : ∀ b ∈ F, ∃ d ∈ D, b ∈ φ d) (hFn : F.Nodup) (hcap : zs.length ≤ cap) (hsz : cap * sz ≤ arr.size)
    (hR : ∀ w' : World, (∀ d ∈ F, w'.heap[d]? = w.heap[d]?) → w'.heap[w.heap.size]? = some (.cells arr e (0, 0)) → RWe w' w.heap.size sz 0 zs F) :
    ∃ β' φ', Conc C { st with ob := updL st.ob (D.map (fun d => (d, OB.dead)) ++ [(nm, .own sz zs)]) } a (w.drew.alloc (.cells arr e)) I β' φ' ∧ β' nm = some ⟨w.heap.size, 0, sz, cap⟩ := by
  have hC1 := hC.drew.new hn (.cells arr e) (.win sz []) ⟨w.heap.size, 0, sz, cap⟩ (fun I' hI => ⟨_, upd_same _ _ _, rfl, rfl, by simp, .inr ⟨rfl, ⟨arr, e, heap_alloc_new _ _, by simpa using hsz⟩, trivial⟩⟩)
  have hnD : nm ∉ D := fun h => hD nm h hn
  have hlt : ∀ b ∈ F, b < w.heap.size := fun b hb => by
    obtain ⟨d, -, h⟩ := hFD b hb
    exact (hC.flt d b h).1
  have hds : w.drew.heap.size = w.heap.size := rfl
  have hφD : ∀ d ∈ D, upd φ nm [w.drew.heap.size] d = φ d := fun d hd => upd_other _ _ (by rintro rfl; exact hnD hd)
  have hC2 := hC1.absorb (w' := w.drew.alloc (.cells arr e)) (n := nm) (D := D) (o' := .own sz zs) (F := w.heap.size :: F) (Evo.refl _ _) (by simp [upd_same]) hnD
    (fun d hd => by
      show upd st.ob nm _ d ≠ none
      rw [upd_other _ _ (by rintro rfl; exact hnD hd)]; exact hD d hd)
    (fun b hb => by
      rcases List.mem_cons.1 hb with rfl | hb
      · left; rw [upd_same]; simp [hds]
      · obtain ⟨d, h1, h2⟩ := hFD b hb
        exact .inr ⟨d, h1, by rw [hφD d h1]; exact h2⟩)
    (fun b hb hY => by
      rw [upd_same] at hb
      have h1 := hC.ylt b hY
      have h2 := hC.evo.size
      simp [hds] at hb
      omega)
    (fun d hd b hb => by rw [hφD d hd] at hb; exact hDY d hd b hb) (by intro s xs h; cases h)
    (by
      refine ⟨_, upd_same _ _ _, rfl, rfl, hcap, List.nodup_cons.2 ⟨fun h => absurd (hlt _ h) (Nat.lt_irrefl _), hFn⟩, .inr ⟨F, rfl, ⟨arr, e, heap_alloc_new _ _, by simpa using hsz⟩, ?_⟩⟩
      refine hR _ (fun d hd => ?_) (heap_alloc_new _ _)
      exact heap_alloc_old _ _ (hlt d hd))
  have hobe := updL_deadN (ob := st.ob) D nm (.win sz []) (.own sz zs)
  simp only [hobe] at hC2
  exact ⟨_, _, hC2, upd_same _ _ _⟩
theorem appendO_sound (hC : Conc C st a w I β φ) {nm : Nat} {ts : List TypeId} {ty : TypeId} {s x v : AV} {p y : Value} {c : Prop} {u : Ups} (hs : Rv w I β s p) (hx : Rv w I β x y)
    (h : aAppendO P st nm ts s x = some (c, v, u)) (hc : c) : Good P C st a w (Builtin.append_ ts.toArray ty #[p, y]) v u := by
  unfold aAppendO at h
  split at h
  · rename_i t t'
    split at h
    · rename_i T hT
      obtain ⟨d, i, z, hd, hi, hz, rfl⟩ := ti_spec hT
      simp only at h
      split at h
      · rename_i e hk
        cases d <;> simp only [tkOf, TK.slice.injEq, reduceCtorEq] at hk
        rw [hk] at hd
        split at h
        · rename_i E hE
          obtain ⟨d', i', z', hd', hi', hz', rfl⟩ := ti_spec hE
          simp only at h
          split at h
          · rename_i m sx ye y' hel0
            obtain ⟨rfl, hobm, hsw⟩ := elO_spec hel0
            · skip
              · skip
                split at h
                · rename_i n len
                  split at h
                  · rename_i sz xs hob
                    split at h
                    · rename_i hsz
                      cases h
                      obtain ⟨hn, rfl, hpos, hzs, hnd, rfl, h47, h62⟩ := hc
                      obtain ⟨hsz1, hsz2⟩ := hsz
                      have hn' : st.ob nm = none := by simpa using hn
                      have hzs' : z'.cells.size = i'.size := by simpa using hzs
                      replace hsz1 : sz = i'.size := hsz1
                      replace hsz2 : sx = i'.size := hsz2
                      subst hsz1
                      subst hsz2
                      obtain ⟨hnm, hnd2⟩ := List.nodup_cons.1 hnd
                      obtain ⟨hmy, hndy⟩ := List.nodup_cons.1 hnd2
                      have hnem : n ≠ m := fun e => hnm (by simp [e])
                      have hny : n ∉ arrN ye := fun h => hnm (by simp [h])
                      -- the element
                      obtain ⟨blm, hbm, hlem, hxm⟩ := hx
                      obtain ⟨blm', hbm', m1, m2, m3, m4⟩ := hC.ob _ _ hobm
                      rw [hbm] at hbm'; cases hbm'
                      rcases m4 with ⟨m4, -⟩ | ⟨hφm, -, hrm⟩
                      · omega
                      rcases hxm with rfl | ⟨hxm, -⟩
                      case inr => omega
                      rw [Nat.zero_mul, Nat.add_zero, Nat.sub_zero, m2]
                      obtain ⟨vs, hl, hcell, hone, hel⟩ := RJe_vals _ _ hrm
                      have hl1 : vs.length = i'.size := by rw [hl]; simp
                      obtain ⟨hyl, hye⟩ := hel 0 ye rfl
                      obtain ⟨hy'l, Fy, hFyn, hFy, hRy⟩ := swls hC ye y' hsw hndy vs fun j c hc => by
                        obtain ⟨v, h1, h2⟩ := hye j c hc
                        exact ⟨v, by simpa using h1, h2.1, h2.2⟩
                      have hcell' : ∀ (j : Nat) v, vs[j]? = some v → w.cell? ((⟨blm.b, 0, none⟩ : Addr).add j) = some v := fun j v hv => by rw [Addr.add_lit]; exact hcell j v hv
                      -- the row
                      obtain ⟨bl, hb, hle, hp⟩ := hs
                      obtain ⟨bl', hb', h1, h2, h3, hnod, h4⟩ := hC.ob _ _ hob
                      rw [hb] at hb'; cases hb'
                      rw [Nat.zero_mul, Nat.add_zero, Nat.sub_zero, h2] at hp
                      have hnames : ∀ k ∈ arrN ye, st.ob k ≠ none ∧ ∀ b ∈ φ k, ¬ C.Y b := fun k hk => by
                        obtain ⟨s', ys', hh⟩ := swl_names ye y' hsw k hk
                        refine ⟨?_, noY_of hC hh⟩
                        rcases hh with hh | ⟨hh, -⟩ | ⟨hh, -⟩ <;> rw [hh] <;> simp
                      have hmY : ∀ b ∈ φ m, ¬ C.Y b := fun b hb => hC.wok m _ hobm rfl b hb
                      have hnY : ∀ b ∈ φ n, ¬ C.Y b := fun b hb => hC.wok n _ hob rfl b hb
                      have hFyd : ∀ b ∈ Fy, b ∉ φ n := fun b hb hb2 => by
                        obtain ⟨k, hk, hbk⟩ := hFy b hb
                        exact hC.sep n k (by rintro rfl; exact hny hk) b hb2 hbk
                      have hylen : y'.length = i'.size := by rw [hy'l, hyl]
                      by_cases hroom : xs.length + 1 ≤ bl.cap
                      · rcases hp with rfl | ⟨h0, a0, rfl⟩
                        case inr => omega
                        rcases h4 with ⟨h4, -⟩ | ⟨F1, hφ, ⟨arr, ety, hh, hsize⟩, hrc⟩
                        · omega
                        have hbig : xs.length * i'.size + 1 * i'.size ≤ bl.cap * i'.size := by rw [← Nat.add_mul]; exact Nat.mul_le_mul_right _ hroom
                        have hrun := run_append_room' (P := P) w t ty e ety i' hd hi' bl.b xs.length bl.cap arr hh ⟨blm.b, 0, none⟩ 1 blm.cap vs (by rw [hl1]; omega) hcell' hone hroom (by rw [hl1]; omega)
                        have hnew := setRow_heap w bl.b arr (arr.toList.take (xs.length * i'.size) ++ vs ++ arr.toList.drop (xs.length * i'.size + vs.length)).toArray ety (0, 0) hh
                        generalize hW : w.setRow bl.b (arr.toList.take (xs.length * i'.size) ++ vs ++ arr.toList.drop (xs.length * i'.size + vs.length)).toArray = W at hrun hnew
                        have hevo : Evo (· ∈ φ n) w W := by rw [← hW]; exact evo_setRow w bl.b _ _ (by rw [hφ]; simp)
                        have hspl : ∀ k, W.cell? ⟨bl.b, k, none⟩ = if xs.length * i'.size ≤ k ∧ k < xs.length * i'.size + vs.length then vs[k - xs.length * i'.size]? else arr[k]? := by
                          intro k
                          have hfit2 : xs.length * i'.size + vs.length ≤ arr.toList.length := by rw [Array.length_toList (xs := arr), hl1]; omega
                          rw [cell_row hnew, List.getElem?_toArray, splice_get _ _ _ hfit2]
                          simp
                        have hCr := hC.renameG (o' := .own i'.size xs) hob rfl (by intro s xs h; cases h) hn' hb ⟨bl, upd_same _ _ _, h1, h2, h3, hnod, .inr ⟨F1, hφ, ⟨arr, ety, hh, hsize⟩, hrc⟩⟩
                        have hnen : n ≠ nm := by rintro rfl; rw [hob] at hn'; cases hn'
                        have hkn : ∀ k ∈ m :: arrN ye, k ≠ n ∧ k ≠ nm ∧ st.ob k ≠ none ∧ ∀ b ∈ φ k, ¬ C.Y b := by
                          intro k hk
                          have hk2 : st.ob k ≠ none ∧ ∀ b ∈ φ k, ¬ C.Y b := by
                            rcases List.mem_cons.1 hk with rfl | hk
                            · exact ⟨by rw [hobm]; simp, hmY⟩
                            · exact hnames k hk
                          exact ⟨fun e => hnm (e ▸ hk), fun e => hk2.1 (e ▸ hn'), hk2⟩
                        have hφk : ∀ k ∈ m :: arrN ye, upd (upd φ n []) nm (φ n) k = φ k := fun k hk => by
                          rw [upd_other _ _ (hkn k hk).2.1, upd_other _ _ (hkn k hk).1]
                        have hoth : ∀ b, b ∉ φ n → b < w.heap.size → W.heap[b]? = w.heap[b]? := fun b hb hlt => hevo.blk b hlt hb
                        have hFyh : ∀ d ∈ Fy, W.heap[d]? = w.heap[d]? := fun d hd => by
                          obtain ⟨k, hk, hbk⟩ := hFy d hd
                          exact hoth d (hFyd d hd) (hC.flt k d hbk).1
                        have hbF1 : bl.b ∉ F1 ∧ F1.Nodup := by rw [hφ] at hnod; exact List.nodup_cons.1 hnod
                        have hF1h : ∀ d ∈ F1, W.heap[d]? = w.heap[d]? := fun d hd => by
                          rw [← hW]
                          exact setRow_other w bl.b d _ (by rintro rfl; exact hbF1.1 hd)
                        have hCa := hCr.absorb (w' := W) (n := nm) (D := m :: arrN ye) (o' := .own i'.size (xs ++ [y'])) (F := bl.b :: (F1 ++ Fy)) (by rw [upd_same]; exact hevo) (by simp [upd_same]) (fun h => (hkn nm h).2.1 rfl)
                          (fun k hk => by
                            show upd (upd st.ob n _) nm _ k ≠ none
                            rw [upd_other _ _ (hkn k hk).2.1, upd_other _ _ (hkn k hk).1]; exact (hkn k hk).2.2.1)
                          (fun b hb => by
                            rcases List.mem_cons.1 hb with rfl | hb
                            · left; rw [upd_same, hφ]; simp
                            · rcases List.mem_append.1 hb with hb | hb
                              · left; rw [upd_same, hφ]; simp [hb]
                              · obtain ⟨k, hk, hbk⟩ := hFy b hb
                                exact .inr ⟨k, List.mem_cons_of_mem _ hk, by rw [hφk k (List.mem_cons_of_mem _ hk)]; exact hbk⟩)
                          (fun b hb => by rw [upd_same] at hb; exact hnY b hb)
                          (fun k hk b hb => by rw [hφk k hk] at hb; exact (hkn k hk).2.2.2 b hb) (by intro s xs h; cases h)
                          (by
                            refine ⟨bl, upd_same _ _ _, h1, h2, by simp; omega, ?_, .inr ⟨F1 ++ Fy, rfl, ⟨_, ety, hnew, by simp; omega⟩, ?_⟩⟩
                            · rw [List.nodup_cons, List.mem_append, List.nodup_append]
                              refine ⟨?_, hbF1.2, hFyn, fun b1 hb1 b2 hb2 e => ?_⟩
                              · rintro (h | h)
                                · exact hbF1.1 h
                                · exact hFyd _ h (by rw [hφ]; simp)
                              · subst e; exact hFyd _ hb2 (by rw [hφ]; simp [hb1])
                            · rw [RWe_app]
                              refine ⟨F1, Fy, rfl, RWe_chg xs 0 F1 (fun j hj => ?_) hF1h hrc, ?_⟩
                              · rw [hspl, if_neg (by omega), cell_row hh]
                              · rw [RWe]
                                refine ⟨Fy, [], by simp, hylen, hRy W bl.b _ hFyh (fun j v hv hj => ?_), by rw [RWe]⟩
                                have hvl := (List.getElem?_eq_some_iff.1 hv).1
                                rw [hspl, if_pos (by omega), ← hv]
                                congr 1; omega)
                        have hobe : updL (upd (upd st.ob n (some .dead)) nm (some (.own i'.size xs))) ((m :: arrN ye).map (fun d => (d, OB.dead)) ++ [(nm, .own i'.size (xs ++ [y']))]) = updL st.ob ((n :: m :: arrN ye).map (fun d => (d, OB.dead)) ++ [(nm, .own i'.size (xs ++ [y']))]) := by
                          rw [updL_deadN]
                          conv => rhs; rw [List.map_cons, List.cons_append, updL_cons]
                        simp only [hobe] at hCa
                        exact ⟨_, W, I, _, _, hrun, ⟨bl, upd_same _ _ _, by omega, .inl (by simp [h2])⟩, hCa⟩
                      · -- a new block
                        have hold : ∃ (F1 : List Nat) (os : List Value), RWe w bl.b i'.size 0 xs F1 ∧ F1.Nodup ∧ (∀ b ∈ F1, b ∈ φ n) ∧ os.length = xs.length * i'.size ∧ ∀ (j : Nat) v, os[j]? = some v → w.cell? ⟨bl.b, 0 + j, none⟩ = some v := by
                          rcases h4 with ⟨h4, -⟩ | ⟨F1, hφ, -, hrc⟩
                          · have hx0 : xs = [] := List.length_eq_zero_iff.1 (by omega)
                            subst hx0
                            exact ⟨[], [], by rw [RWe], by simp, by simp, by simp, by simp⟩
                          · obtain ⟨os, g1, g2⟩ := RWe_cell _ _ _ hrc
                            rw [hφ] at hnod
                            exact ⟨F1, os, hrc, (List.nodup_cons.1 hnod).2, fun b hb => by rw [hφ]; simp [hb], g1, g2⟩
                        obtain ⟨F1, os, hrc, hF1n, hF1φ, hol, hoc⟩ := hold
                        have hasz : (grownCap w (xs.length + 1) bl.cap e) * i'.size ≤ (os.toArray ++ vs.toArray ++ Builtin.zeroCells z'.cells (grownCap w (xs.length + 1) bl.cap e - (xs.length + 1))).size := by
                          have hg := grownCap_ge w (xs.length + 1) bl.cap e
                          simp only [Array.size_append, List.size_toArray, zeroCells_size, hol, hl1, hzs']
                          have : xs.length * i'.size + i'.size = (xs.length + 1) * i'.size := by rw [Nat.add_mul]; omega
                          rw [this, ← Nat.add_mul]
                          exact Nat.mul_le_mul_right _ (by omega)
                        obtain ⟨β', φ', hC', hβ⟩ := growO (e := e) (sz := i'.size) (cap := grownCap w (xs.length + 1) bl.cap e) (D := n :: m :: arrN ye) (zs := xs ++ [y']) (F := F1 ++ Fy) hC hn'
                          (os.toArray ++ vs.toArray ++ Builtin.zeroCells z'.cells (grownCap w (xs.length + 1) bl.cap e - (xs.length + 1)))
                          (fun k hk => by
                            rcases List.mem_cons.1 hk with rfl | hk
                            · rw [hob]; simp
                            · rcases List.mem_cons.1 hk with rfl | hk
                              · rw [hobm]; simp
                              · exact (hnames k hk).1)
                          (fun k hk => by
                            rcases List.mem_cons.1 hk with rfl | hk
                            · exact hnY
                            · rcases List.mem_cons.1 hk with rfl | hk
                              · exact hmY
                              · exact (hnames k hk).2)
                          (fun b hb => by
                            rcases List.mem_append.1 hb with hb | hb
                            · exact ⟨n, by simp, hF1φ b hb⟩
                            · obtain ⟨k, hk, hbk⟩ := hFy b hb
                              exact ⟨k, by simp [hk], hbk⟩)
                          (List.nodup_append.2 ⟨hF1n, hFyn, fun b1 hb1 b2 hb2 e => by subst e; exact hFyd _ hb2 (hF1φ _ hb1)⟩)
                          (by simpa using grownCap_ge w (xs.length + 1) bl.cap e) hasz
                          (fun w' hF hblk => by
                            rw [RWe_app]
                            refine ⟨F1, Fy, rfl, RWe_mov xs 0 F1 (fun j hj => ?_) (fun d hd => hF d (by simp [hd])) hrc, ?_⟩
                            · have hjo : j < os.length := by rw [hol]; exact hj
                              rw [hoc j os[j] (List.getElem?_eq_getElem hjo), cell_row hblk, Nat.zero_add, Array.append_assoc, Array.getElem?_append_left (by simpa using hjo)]
                              simp [hjo]
                            · rw [RWe]
                              refine ⟨Fy, [], by simp, hylen, hRy w' _ _ (fun d hd => hF d (by simp [hd])) (fun j v hv hj => ?_), by rw [RWe]⟩
                              have hvl := (List.getElem?_eq_some_iff.1 hv).1
                              rw [cell_row hblk, Nat.zero_add, Array.append_assoc, Array.getElem?_append_right (by simp [hol])]
                              simp only [List.size_toArray]
                              rw [hol, show xs.length * i'.size + j - xs.length * i'.size = j by omega, Array.getElem?_append_left (by simpa using hvl)]
                              simpa using hv)
                        refine ⟨_, _, I, β', φ', ?_, ⟨_, hβ, ?_, .inl rfl⟩, hC'⟩
                        · rcases hp with rfl | ⟨h0, a0, rfl⟩
                          · have := run_append_grow (P := P) w t ty e i' z' hd hi' hz' ⟨bl.b, 0, none⟩ xs.length bl.cap os hol (fun j v hv => by rw [Addr.add_lit]; exact hoc j v hv) ⟨blm.b, 0, none⟩ 1 blm.cap vs (by rw [hl1]; omega) hcell' (by omega) (by omega)
                              (growslice_fits (by omega) (by omega))
                            simpa using this
                          · have hl0 : xs.length = 0 := by omega
                            have hx0 : xs = [] := List.length_eq_zero_iff.1 hl0
                            subst hx0
                            have ho0 : os = [] := List.length_eq_zero_iff.1 (by simpa using hol)
                            subst ho0
                            cases a0 with
                            | none =>
                              have := run_append_nil (P := P) w t ty e i' z' hd hi' hz' ⟨blm.b, 0, none⟩ 1 blm.cap vs (by rw [hl1]; omega) hcell' (by omega) (by omega) (by have h : 1 * i'.bytes ≤ 2 ^ 47 := h47; exact Nat.le_trans h (by decide))
                              simpa [← h0] using this
                            | some a0 =>
                              have := run_append_grow (P := P) w t ty e i' z' hd hi' hz' a0 0 0 [] (by simp) (by simp) ⟨blm.b, 0, none⟩ 1 blm.cap vs (by rw [hl1]; omega) hcell' (by omega) (by omega)
                                (growslice_fits (by omega) (by omega))
                              simpa [← h0] using this
                        · simpa using grownCap_ge w (xs.length + 1) bl.cap e
                    · cases h
                  · cases h
                · cases h
          · cases h
        · cases h
      · cases h
    · cases h
  · cases h
end
end Go.Proofs.Ytmcekkllkfccjaa.Vs

end
section
namespace Go.Proofs.Ytmcekkllkfccjaa.Vs
set_option linter.unusedVariables false
set_option linter.unusedSimpArgs false
set_option linter.unusedSectionVars false
set_option linter.unnecessarySimpa false
set_option linter.all false
open Go.RowKit
variable {P : Program}
/-! ### One operation of a function that makes rows of its own -/
def orE (a b : ARes) : ARes := match a with
  | some r => some r
  | none => b
theorem orE_some (r : Prop × AV × Ups) (b : ARes) : orE (some r) b = some r := (rfl)
theorem orE_none (b : ARes) : orE none b = b := (rfl)
/-- Does a value name a row? -/
def hasN1 : AV → Bool
  | .arr .. => true
  | _ => false
def hasN : AV → Bool
  | .agg cs => cs.any hasN1
  | a => hasN1 a
def aopX (P : Program) (st : St) (nm : Nat) (o : Op) : ARes :=
  match o with
  | .store t x v => orE (if hasN (ev st v) = true then orE (aStoreW P st t (ev st x) (ev st v)) (aStore P st t (ev st x) (ev st v)) else orE (aStore P st t (ev st x) (ev st v)) (aStoreW P st t (ev st x) (ev st v))) (aStoreO P st t (ev st x) (ev st v))
  | .buildSlice t len ps => if ((parts st ps.toList).any fun p => hasN p.2) = true then orE (aBuildSliceW P st nm t len (parts st ps.toList)) (aBuildSlice P st nm t len (parts st ps.toList)) else orE (aBuildSlice P st nm t len (parts st ps.toList)) (aBuildSliceW P st nm t len (parts st ps.toList))
  | .load t x => orE (aLoad P st t (ev st x)) (aLoadO P st t (ev st x))
  | .indexAddr t x i => orE (aIndexAddr P st t (ev st x) (ev st i)) (aIndexAddrO P st t (ev st x) (ev st i))
  | o => aop P st nm o
def aBuiltinX (P : Program) (st : St) (nm : Nat) (b : Builtin) (ts : List TypeId) (args : List AV) : ARes :=
  match b, args with
  | .append, [s, x] => orE (aAppend P st nm ts s x) (orE (aAppendW P st nm ts s x) (aAppendO P st nm ts s x))
  | b, args => aBuiltin P st nm b ts args
/-- Names for empty rows. -/
def zU (Z : List (Nat × Nat)) : Ups := Z.map fun z => (z.1, .own z.2 [])
def addZ (st : St) (Z : List (Nat × Nat)) : St := { st with ob := updL st.ob (zU Z) }
theorem Conc.newEmptyO {C : Cx} {st : St} {a : Act} {w : World} {I : Nat → Prop} {β : Beta} {φ : Nat → List Nat} (hC : Conc C st a w I β φ) {nm sz : Nat} (hn : st.ob nm = none) :
    Conc C { st with ob := upd st.ob nm (some (.own sz [])) } a w I (upd β nm (some ⟨0, 0, sz, 0⟩)) φ := by
  have hdom : ∀ m, upd st.ob nm (some (OB.own sz [])) m = none → m ≠ nm ∧ st.ob m = none := by
    intro m ho
    by_cases h1 : m = nm
    · subst h1; simp [upd_same] at ho
    · rw [upd_other _ _ h1] at ho; exact ⟨h1, ho⟩
  refine hC.move (fun _ => False) (Evo.refl _ w) (fun _ hf => hf.elim) (fun _ hb => hb) (fun _ hb => .inl hb) ?_ ?_ ?_ ?_ hC.sep hC.nimm hC.flt ?_ ?_
  · intro m bl' hb
    rw [upd_other]
    · exact hb
    · rintro rfl; rw [hC.dom _ hn] at hb; cases hb
  · intro m o ho
    by_cases h1 : m = nm
    · subst h1
      simp only [upd_same, Option.some.injEq] at ho
      subst ho
      exact .inr ⟨_, upd_same _ _ _, rfl, rfl, by simp, by rw [hC.fdom _ hn]; simp, .inl ⟨rfl, hC.fdom _ hn⟩⟩
    · rw [upd_other _ _ h1] at ho
      exact .inl ⟨ho, rfl, fun _ _ hf => hf⟩
  · intro m ho
    rw [upd_other _ _ (hdom m ho).1]; exact hC.dom m (hdom m ho).2
  · intro m ho
    exact hC.fdom m (hdom m ho).2
  · intro m cs ho hwr b hb
    by_cases h1 : m = nm
    · subst h1; rw [hC.fdom _ hn] at hb; simp at hb
    · rw [upd_other _ _ h1] at ho
      exact hC.wok m cs ho hwr b hb
  · intro m s ys ho b hb
    by_cases h1 : m = nm
    · subst h1; rw [hC.fdom _ hn] at hb; simp at hb
    · rw [upd_other _ _ h1] at ho
      exact hC.fnew m _ _ ho b hb
theorem addZ_conc {C : Cx} {a : Act} {w : World} {I : Nat → Prop} {φ : Nat → List Nat} : ∀ (Z : List (Nat × Nat)) (st : St) (β : Beta), Conc C st a w I β φ → (Z.map (·.1)).Nodup → (∀ z ∈ Z, st.ob z.1 = none) →
    ∃ β', (∀ n bl, β n = some bl → β' n = some bl) ∧ Conc C (addZ st Z) a w I β' φ ∧ ∀ n ∈ Z.map (·.1), ∃ bl, β' n = some bl ∧ bl.cap = 0
  | [], st, β, hC, _, _ => ⟨β, fun _ _ h => h, hC, by simp⟩
  | z :: Z, st, β, hC, hnd, hn => by
    simp only [List.map_cons, List.nodup_cons] at hnd
    have h1 := hC.newEmptyO (sz := z.2) (hn z (by simp))
    obtain ⟨β', h2, h3, h4⟩ := addZ_conc Z _ _ h1 hnd.2 (fun y hy => by
      show upd st.ob z.1 _ y.1 = none
      rw [upd_other]
      · exact hn y (by simp [hy])
      · intro e; exact hnd.1 (List.mem_map.2 ⟨y, hy, e⟩))
    refine ⟨β', fun n bl hb => h2 n bl ?_, h3, fun n hm => ?_⟩
    · rw [upd_other]
      · exact hb
      · rintro rfl; rw [hC.dom _ (hn z (by simp))] at hb; cases hb
    · rcases List.mem_cons.1 hm with rfl | hm
      · exact ⟨_, h2 _ _ (upd_same _ _ _), rfl⟩
      · exact h4 n hm
/-- A call that may hand on rows to be written and bring new ones. -/
def XStep (P : Program) (st : St) (nm : Nat) (f : FuncId) (actual : List AV) (v : AV) (u : Ups) : Prop :=
  ∃ (args : List AV) (wos : List OB) (r : AV) (wos' fos : List OB) (hs : List Nat) (q : Bool) (Z : List (Nat × Nat)), XCall P f args wos r wos' fos ∧ (Z.map (·.1)).Nodup ∧ (∀ z ∈ Z, st.ob z.1 = none) ∧ (hs ++ (List.range fos.length).map (nm + ·)).Nodup ∧
    ax2s q (addZ st Z) hs (Z.map (·.1)) actual args ∧ axOs q (addZ st Z) hs (Z.map (·.1)) hs wos ∧
    (∀ k, k < fos.length → (addZ st Z).ob (nm + k) = none) ∧ rkT q r = true ∧ (wos' ++ fos).all (rkO q) = true ∧ v = rnT (rhoX hs nm) r ∧ u = zU Z ++ upsX hs nm wos' fos
section
variable {C : Cx} {st : St} {a : Act} {w : World} {I : Nat → Prop} {β : Beta} {φ : Nat → List Nat}
theorem orE_cases {a b : ARes} {r : Prop × AV × Ups} {G : Prop} (h : orE a b = some r) (h1 : a = some r → G) (h2 : b = some r → G) : G := by
  cases a with
  | some x => exact h1 h
  | none => exact h2 h
theorem aopX_sound (hC : Conc C st a w I β φ) {nm : Nat} {o : Oper} {v : AV} {c : Prop} {u : Ups} (h : aopX P st nm o.op = some (c, v, u)) (hc : c) : GoodOp P C st a w o v u := by
  have hE : ∀ x, Rv w I β (ev st x) (a.eval x) := Rv_eval hC.env
  obtain ⟨dst, op, type, pos, aft, gd⟩ := o
  simp only at h
  cases op with
  | store t x y =>
    have g1 : aStore P st t (ev st x) (ev st y) = some (c, v, u) → GoodOp P C st a w ⟨dst, .store t x y, type, pos, aft, gd⟩ v u := fun h => aop_sound (nm := nm) hC (o := ⟨dst, .store t x y, type, pos, aft, gd⟩) h hc
    have g2 : aStoreW P st t (ev st x) (ev st y) = some (c, v, u) → GoodOp P C st a w ⟨dst, .store t x y, type, pos, aft, gd⟩ v u := fun h => by
      obtain ⟨rfl, w', I', φ', hr, hC'⟩ := storeW_sound hC (hE _) (hE _) h hc
      exact ⟨undef, w', I', β, φ', .inr ⟨by simp [execOp, hr], rfl⟩, rfl, hC'⟩
    have g3 : aStoreO P st t (ev st x) (ev st y) = some (c, v, u) → GoodOp P C st a w ⟨dst, .store t x y, type, pos, aft, gd⟩ v u := fun h => by
      obtain ⟨rfl, w', φ', hr, hC'⟩ := storeO_sound hC (hE _) (hE _) h hc
      exact ⟨undef, w', I, β, φ', .inr ⟨by simp [execOp, hr], rfl⟩, rfl, hC'⟩
    simp only [aopX] at h
    refine orE_cases h (fun h => ?_) g3
    split at h
    · exact orE_cases h g2 g1
    · exact orE_cases h g1 g2
  | load t x =>
    simp only [aopX] at h
    refine orE_cases h (fun h => aop_sound (nm := nm) hC (o := ⟨dst, .load t x, type, pos, aft, gd⟩) h hc) fun h => ?_
    obtain ⟨rfl, y, hy, hr⟩ := loadO_sound hC (hE _) h hc
    exact goodOp_value hC (by simp [execOp, hy]) hr
  | indexAddr t x i =>
    simp only [aopX] at h
    exact orE_cases h (fun h => aop_sound (nm := nm) hC (o := ⟨dst, .indexAddr t x i, type, pos, aft, gd⟩) h hc) fun h => (indexAddrO_sound hC (hE _) (hE _) h hc).op rfl
  | buildSlice t len ps =>
    have g1 : aBuildSlice P st nm t len (parts st ps.toList) = some (c, v, u) → GoodOp P C st a w ⟨dst, .buildSlice t len ps, type, pos, aft, gd⟩ v u := fun h => aop_sound (nm := nm) hC (o := ⟨dst, .buildSlice t len ps, type, pos, aft, gd⟩) h hc
    have g2 : aBuildSliceW P st nm t len (parts st ps.toList) = some (c, v, u) → GoodOp P C st a w ⟨dst, .buildSlice t len ps, type, pos, aft, gd⟩ v u := fun h => (buildSliceW_sound hC (by simpa using parts_rel hE _) h hc).op rfl
    simp only [aopX] at h
    split at h
    · exact orE_cases h g2 g1
    · exact orE_cases h g1 g2
  | _ => exact aop_sound (nm := nm) hC (o := ⟨dst, _, type, pos, aft, gd⟩) h hc
theorem builtinX_sound (hC : Conc C st a w I β φ) {nm : Nat} {b : Builtin} {ts : List TypeId} {args : List Operand} {o : Oper} {v : AV} {c : Prop} {u : Ups} {tsA : Array TypeId} {argsA : Array Operand} (hts : tsA.toList = ts) (hargs : argsA.toList = args)
    (ho : o.op = .call { callee := .builtin b, args := argsA, argTypes := tsA }) (h : aBuiltinX P st nm b ts (args.map (ev st)) = some (c, v, u)) (hc : c) : GoodOp P C st a w o v u := by
  have hE : ∀ x, Rv w I β (ev st x) (a.eval x) := Rv_eval hC.env
  generalize hL : args.map (ev st) = L at h
  unfold aBuiltinX at h
  split at h
  · rename_i s x
    cases h1 : aAppend P st nm ts s x with
    | some r =>
      rw [h1] at h
      exact builtin_sound (nm := nm) hC hts hargs ho (by rw [hL]; exact h1.trans h) hc
    | none =>
      rw [h1] at h
      obtain ⟨dst, op, type, pos, aft, gd⟩ := o
      simp only at ho
      subst ho
      obtain ⟨y, z, rfl, rfl, rfl⟩ := map_eq2 hL
      have ha : argsA = #[y, z] := by apply Array.ext'; exact hargs
      subst ha
      have htA : tsA = ts.toArray := by apply Array.ext'; simpa using hts
      have : Good P C st a w (Builtin.append_ ts.toArray type #[a.eval y, a.eval z]) v u := by
        simp only [orE] at h
        cases h2 : aAppendW P st nm ts (ev st y) (ev st z) with
        | some r => rw [h2] at h; exact appendW_sound (ty := type) hC (hE y) (hE z) (h2.trans h) hc
        | none => rw [h2] at h; exact appendO_sound (ty := type) hC (hE y) (hE z) h hc
      rw [← htA] at this
      exact this.op (by simp [execOp, resolve, invoke, builtin])
  · exact builtin_sound (nm := nm) hC hts hargs ho (by rw [hL]; exact h) hc
/-- One operation: its value, the objects that it turns. -/
def AStepX (P : Program) (st : St) (o : Oper) (v : AV) (u : Ups) : Prop :=
  match o.op with
  | .call c => match c.callee with
    | .builtin b => ∃ p, (aBuiltin P st (nmOf o) b c.argTypes.toList (c.args.toList.map (ev st)) = some (p, v, u) ∨ aBuiltinX P st (nmOf o) b c.argTypes.toList (c.args.toList.map (ev st)) = some (p, v, u)) ∧ p
    | .value f => match ev st f with
      | .fn fid fst cap => GStep P st fid (fst ++ c.args.toList.map (ev st) ++ cap) v u ∨ XStep P st (nmOf o) fid (fst ++ c.args.toList.map (ev st) ++ cap) v u ∨ PStep P st fid (fst ++ c.args.toList.map (ev st) ++ cap) v u
      | _ => False
    | .invoke _ _ => False
  | op => ∃ p, (aop P st (nmOf o) op = some (p, v, u) ∨ aopX P st (nmOf o) op = some (p, v, u)) ∧ p
theorem AStepX_of {st : St} {o : Oper} {v : AV} {u : Ups} (h : AStep P st o v u) : AStepX P st o v u := by
  obtain ⟨dst, op, ty, pos, aft, gd⟩ := o
  unfold AStep at h
  unfold AStepX
  cases op with
  | call c =>
    obtain ⟨callee, args, argTypes⟩ := c
    cases callee with
    | invoke _ _ => exact h.elim
    | builtin b => obtain ⟨p, h1, h2⟩ := h; exact ⟨p, .inl h1, h2⟩
    | value f =>
      simp only at h ⊢
      split at h
      · rename_i fid fst cap he
        simp only [he]
        exact .inl h
      · exact h.elim
  | _ => obtain ⟨p, h1, h2⟩ := h; exact ⟨p, .inl h1, h2⟩
theorem astepX_sound {o : Oper} {v : AV} {u : Ups} {K : Act → World → Prop} {Q : Exit → Act → World → Prop} (hd : ∀ d, o.dst = some d → d < C.nt) (hC : Conc C st a w I β φ) (h : AStepX P st o v u) (hK : ∀ a' w', CC C (st.put o v u) a' w' → K a' w') : o.wp P a w K Q := by
  have hE : ∀ x, Rv w I β (ev st x) (a.eval x) := Rv_eval hC.env
  have good : ∀ v u, GoodOp P C st a w o v u → (∀ a' w', CC C (st.put o v u) a' w' → K a' w') → o.wp P a w K Q := by
    rintro v u ⟨y, w', I', β', φ', hr, hv, hC'⟩ hK
    have hcc : CC C (st.put o v u) (a.put o.dst y) w' := by
      refine ⟨I', β', φ', ?_⟩
      unfold St.put
      cases hdst : o.dst with
      | none => exact hC'
      | some d => exact hC'.put (hd d hdst) hv
    rcases hr with hr | ⟨hr, rfl⟩
    · unfold Oper.wp; rw [hr]; exact hK _ _ hcc
    · unfold Oper.wp; rw [hr]; exact hK _ _ hcc
  obtain ⟨dst, op, ty, pos, aft, gd⟩ := o
  unfold AStepX at h
  cases op with
  | call c =>
    obtain ⟨callee, args, argTypes⟩ := c
    simp only at h
    cases callee with
    | invoke _ _ => exact h.elim
    | builtin b =>
      obtain ⟨p, h1 | h1, h2⟩ := h
      · exact good v u (builtin_sound hC rfl rfl rfl h1 h2) hK
      · exact good v u (builtinX_sound hC rfl rfl rfl h1 h2) hK
    | value f =>
      simp only at h
      split at h
      · rename_i fid fst cap hfe
        have hnt : ∀ x ∈ args.toList, ∀ vs, ev st x ≠ .tup vs := by
          intro x hx vs
          have hm : ev st x ∈ fst ++ args.toList.map (ev st) ++ cap := by simp; exact .inr (.inl ⟨x, by simpa using hx, rfl⟩)
          rcases h with ⟨rns, wns, args', ros, wos, wos', -, -, -, -, -, -, ham, -⟩ | ⟨args', wos, r, wos', fos, hs, q, Z, -, -, -, -, ham, -⟩ | ⟨n, sz, xs, hs, i, f0, w0, s, ys, ys', rest, r, -, -, he, hsc, -⟩
          · exact am2s_noTup _ _ ham _ hm vs
          · exact ax2s_noTup _ _ ham _ hm vs
          · rw [he] at hm
            rcases List.mem_cons.1 hm with hm | hm
            · rw [hm]; simp
            · have := List.all_eq_true.1 hsc _ hm
              rintro hh
              rw [hh] at this
              simp [scal2, scal1] at this
        have hfn : ∃ fn, P.funcs[fid]? = some fn ∧ (fn.name == "runtime.NumGoroutine") = false ∧ fn.body.isNone = false := by
          rcases h with ⟨rns, wns, args', ros, wos, wos', ⟨h, -⟩, -⟩ | ⟨args', wos, r, wos', fos, hs, q, Z, ⟨h, -⟩, -⟩ | ⟨n, sz, xs, hs, i, f0, w0, s, ys, ys', rest, r, -, -, -, -, -, ⟨h, -⟩, -⟩
          · exact h
          · exact h
          · exact h
        obtain ⟨fn, hfn, hname, hbody⟩ := hfn
        have hfv := hE f
        rw [hfe] at hfv
        obtain ⟨fs, us, hfv, g1, g2⟩ := hfv
        have hvs := Rv2s_append _ _ _ _ (Rv2s_append _ _ _ _ (Rv0s_Rv2s _ _ g1) (Rv2s_eval hE args.toList hnt)) (Rv0s_Rv2s _ _ g2)
        have hcall : Calls P fid ⟨fs ++ args.toList.map a.eval ++ us⟩ w fun e w' => ∃ y I' β' φ', e = .returned y ∧ Rv w' I' β' v y ∧ Conc C { st with ob := updL st.ob u } a w' I' β' φ' := by
          rcases h with h1 | ⟨args', wos, r, wos', fos, hs, q, Z, hX, hz1, hz2, hnd, ham, hobj, hnm, hr, hro, rfl, rfl⟩ | h1
          rotate_left 2
          · exact pstep_sound hC hvs h1
          · exact gstep_sound hC hvs h1
          · obtain ⟨β2, g1, g2, g3⟩ := addZ_conc Z st β hC hz1 hz2
            rw [updL_append]
            exact xstep_sound g2 g3 (Rv2s_mono (fun _ h => h) (fun _ _ => rfl) g1 _ _ hvs) hX hnd ham hobj hnm hr hro
        unfold Oper.wp
        have hrun : (execOp a.eval ⟨dst, .call { callee := .value f, args, argTypes }, ty, pos, aft, gd⟩).run P w = .ok (.enter fid ⟨fs ++ args.toList.map a.eval ++ us⟩) w := by
          simp only [execOp, resolve, hfv, Deferred.ofValue, Sem.run_bind, Sem.run_pure, Result.andThen_ok, invoke, callFunc, run_program, hfn, hname, hbody]
          simp
        rw [hrun]
        refine hcall.mono ?_
        rintro e w' ⟨y, I', β', φ', rfl, hy, hC'⟩
        refine hK _ _ ⟨I', β', φ', ?_⟩
        unfold St.put
        cases dst with
        | none => exact hC'
        | some d => exact hC'.put (hd d rfl) hy
      · exact h.elim
  | _ =>
    obtain ⟨p, h1 | h1, h2⟩ := h
    · exact good v u (aop_sound (nm := nmOf _) hC h1 h2) hK
    · exact good v u (aopX_sound (nm := nmOf _) hC h1 h2) hK
/-- A call of which what comes back is one of many. -/
def EStep (P : Program) (st : St) (nm : Nat) (f : FuncId) (actual : List AV) (K : AV → Ups → Prop) : Prop :=
  ∃ (args : List AV) (wos : List OB) (nf : Nat) (Po : AV → List OB → List OB → Prop) (hs : List Nat) (q : Bool) (Z : List (Nat × Nat)), XCallE P f args wos nf Po ∧ (Z.map (·.1)).Nodup ∧ (∀ z ∈ Z, st.ob z.1 = none) ∧ (hs ++ (List.range nf).map (nm + ·)).Nodup ∧
    ax2s q (addZ st Z) hs (Z.map (·.1)) actual args ∧ axOs q (addZ st Z) hs (Z.map (·.1)) hs wos ∧
    (∀ k, k < nf → (addZ st Z).ob (nm + k) = none) ∧ ∀ r wos' fos, Po r wos' fos → rkT q r = true ∧ (wos' ++ fos).all (rkO q) = true ∧ K (rnT (rhoX hs nm) r) (zU Z ++ upsX hs nm wos' fos)
theorem estep_sound {o : Oper} {c : Call} {f : Operand} {fid : FuncId} {fst cap : List AV} {K : AV → Ups → Prop} {Kx : Act → World → Prop} {Q : Exit → Act → World → Prop} (hd : ∀ d, o.dst = some d → d < C.nt) (hC : Conc C st a w I β φ) (ho : o.op = .call c) (hc : c.callee = .value f) (hfe : ev st f = .fn fid fst cap)
    (h : EStep P st (nmOf o) fid (fst ++ c.args.toList.map (ev st) ++ cap) K) (hK : ∀ v u a' w', K v u → CC C (st.put o v u) a' w' → Kx a' w') : o.wp P a w Kx Q := by
  have hE : ∀ x, Rv w I β (ev st x) (a.eval x) := Rv_eval hC.env
  obtain ⟨dst, op, ty, pos, aft, gd⟩ := o
  obtain ⟨callee, args, argTypes⟩ := c
  simp only at ho hc
  subst ho hc
  simp only at h
  obtain ⟨args', wos, nf, Po, hs, q, Z, hX, hz1, hz2, hnd, ham, hobj, hnm, hk⟩ := h
  have hnt : ∀ x ∈ args.toList, ∀ vs, ev st x ≠ .tup vs := by
    intro x hx vs
    have hm : ev st x ∈ fst ++ args.toList.map (ev st) ++ cap := by simp; exact .inr (.inl ⟨x, by simpa using hx, rfl⟩)
    exact ax2s_noTup _ _ ham _ hm vs
  obtain ⟨fn, hfn, hname, hbody⟩ := hX.1
  have hfv := hE f
  rw [hfe] at hfv
  obtain ⟨fs, us, hfv, g1, g2⟩ := hfv
  have hvs := Rv2s_append _ _ _ _ (Rv2s_append _ _ _ _ (Rv0s_Rv2s _ _ g1) (Rv2s_eval hE args.toList hnt)) (Rv0s_Rv2s _ _ g2)
  have hcall : Calls P fid ⟨fs ++ args.toList.map a.eval ++ us⟩ w fun e w' => ∃ v u, K v u ∧ ∃ y I' β' φ', e = .returned y ∧ Rv w' I' β' v y ∧ Conc C { st with ob := updL st.ob u } a w' I' β' φ' := by
    obtain ⟨β2, k1, k2, k3⟩ := addZ_conc Z st β hC hz1 hz2
    refine (xstepE_sound k2 k3 (Rv2s_mono (fun _ h => h) (fun _ _ => rfl) k1 _ _ hvs) hX hnd ham hobj hnm (fun r w' f' hp => ⟨(hk r w' f' hp).1, (hk r w' f' hp).2.1⟩)).mono ?_
    rintro e w' ⟨r, wos', fos, hp, hh⟩
    refine ⟨_, _, (hk r wos' fos hp).2.2, ?_⟩
    rw [updL_append]
    exact hh
  unfold Oper.wp
  have hrun : (execOp a.eval ⟨dst, .call { callee := .value f, args, argTypes }, ty, pos, aft, gd⟩).run P w = .ok (.enter fid ⟨fs ++ args.toList.map a.eval ++ us⟩) w := by
    simp only [execOp, resolve, hfv, Deferred.ofValue, Sem.run_bind, Sem.run_pure, Result.andThen_ok, invoke, callFunc, run_program, hfn, hname, hbody]
    simp
  rw [hrun]
  refine hcall.mono ?_
  rintro e w' ⟨v, u, hkv, y, I', β', φ', rfl, hy, hC'⟩
  refine hK v u _ _ hkv ⟨I', β', φ', ?_⟩
  unfold St.put
  cases dst with
  | none => exact hC'
  | some d => exact hC'.put (hd d rfl) hy
end
end Go.Proofs.Ytmcekkllkfccjaa.Vs

end
section
namespace Go.Proofs.Ytmcekkllkfccjaa.Vs
set_option linter.unusedVariables false
set_option linter.unusedSimpArgs false
set_option linter.unusedSectionVars false
set_option linter.unnecessarySimpa false
set_option linter.all false
open Go.RowKit
variable {P : Program}
/-! ### A region whose order is open -/
/-- What an operation did: was it wanted, its value, the objects that it turned, those that it looked at. -/
structure En where
  wd : Bool
  v : AV
  u : Ups
  R : Nat → Prop
  T : Nat → Prop := fun _ => True
/-- The indices that come ahead of each operation's, in every order. -/
def befGo : List Oper → List Nat → List Nat
  | [], acc => acc
  | o :: r, acc => befGo r (acc ++ [o.after.toList.foldl (fun m e => if Region.binds .any e = true ∧ e.on < acc.length then m ||| 2 ^ e.on ||| acc.getD e.on 0 else m) 0])
def bef (l : List Oper) (i j : Nat) : Bool := ((befGo l []).getD i 0).testBit j
/-- Every edge goes back; what is not ordered looks at no slot that the other writes. -/
def ordOk (l : List Oper) : Bool :=
  (List.range l.length).all fun i => match l[i]? with
    | some o => o.after.toList.all (fun e => !Region.binds .any e || decide (e.on < i)) && (List.range i).all fun j => bef l i j || (match l[j]? with | some p => p.apart l.toArray o | none => true)
    | none => true
def wantOk (ops : Array Oper) (st : St) (o : Oper) (e : En) : Prop :=
  match o.guard with
  | none => e.wd = true
  | some (j, want) => ∃ d, (ops[j]?).bind (·.dst) = some d ∧ ((∃ b, st.env d = .g (.bool b) ∧ e.wd = (b == want)) ∨ (∃ vs, st.env d = .g (.tuple vs) ∧ e.wd = false))
/-- Two states that one operation cannot tell apart. -/
def Agr (ops : Array Oper) (o : Oper) (R T : Nat → Prop) (st' st : St) : Prop := (∀ t, t ∈ o.looksAt ops → st'.env t = st.env t) ∧ (∀ n, R n → st'.ob n = st.ob n) ∧ ∀ n, ¬ R n → T n → ∀ sz ys, st'.ob n ≠ some (.flat sz ys)
def RunOp (P : Program) (ops : Array Oper) (st : St) (o : Oper) (e : En) : Prop :=
  wantOk ops st o e ∧ (e.wd = true → ∀ st', Agr ops o e.R e.T st' st → AStepX P st' o e.v e.u) ∧ (e.wd = false → e.v = .g undef ∧ e.u = [])
abbrev Lz := List (Oper × En)
def stF : Lz → (Nat → Bool) → Nat → St → St
  | [], _, _, st => st
  | (o, e) :: r, L, i, st => stF r L (i + 1) (if L i = true then st.put o e.v e.u else st)
def Run (P : Program) (ops : Array Oper) : Lz → St → Prop
  | [], _ => True
  | (o, e) :: r, st => RunOp P ops st o e ∧ Run P ops r (st.put o e.v e.u)
def unm (u : Ups) (n : Nat) : Prop := ∃ o, (n, o) ∈ u
/-- Objects: two operations may be exchanged. -/
def obApart (x y : En) : Prop := ∀ n, (unm x.u n → ¬ y.R n ∧ ¬ unm y.u n) ∧ (unm y.u n → ¬ x.R n)
theorem updL_not {n : Nat} : ∀ (u : Ups) (ob : Nat → Option OB), ¬ unm u n → updL ob u n = ob n
  | [], ob, _ => rfl
  | (k, o) :: r, ob, h => by
    rw [updL_cons, updL_not r _ fun ⟨p, hp⟩ => h ⟨p, by simp [hp]⟩, upd_other]
    rintro rfl
    exact h ⟨o, by simp⟩
theorem updL_mem {n : Nat} : ∀ (u : Ups) (ob ob' : Nat → Option OB), unm u n → updL ob u n = updL ob' u n
  | [], _, _, ⟨_, h⟩ => by simp at h
  | (k, o) :: r, ob, ob', h => by
    rw [updL_cons, updL_cons]
    by_cases hr : unm r n
    · exact updL_mem r _ _ hr
    · rw [updL_not r _ hr, updL_not r _ hr]
      obtain ⟨p, hp⟩ := h
      rcases List.mem_cons.1 hp with h1 | h1
      · cases h1; simp [upd_same]
      · exact (hr ⟨p, h1⟩).elim
theorem put_env_ne {st : St} {o : Oper} {v : AV} {u : Ups} {t : Nat} (h : o.dst ≠ some t) : (st.put o v u).env t = st.env t := by
  unfold St.put
  cases hd : o.dst with
  | none => rfl
  | some d => exact upd_other _ _ (by rintro rfl; exact h hd)
theorem put_env_eq {st : St} {o : Oper} {v : AV} {u : Ups} {t : Nat} (h : o.dst = some t) : (st.put o v u).env t = v := by
  unfold St.put
  rw [h]; exact upd_same _ _ _
theorem put_comm {st : St} {o p : Oper} {v z : AV} {u y : Ups} (h : ∀ d, o.dst = some d → p.dst ≠ some d) (hu : ∀ n, unm u n → ¬ unm y n) : (st.put o v u).put p z y = (st.put p z y).put o v u := by
  have henv : ((st.put o v u).put p z y).env = ((st.put p z y).put o v u).env := by
    funext t
    by_cases h1 : o.dst = some t
    · rw [put_env_ne (h t h1), put_env_eq h1, put_env_eq h1]
    · rw [put_env_ne h1]
      by_cases h2 : p.dst = some t
      · rw [put_env_eq h2, put_env_eq h2]
      · rw [put_env_ne h2, put_env_ne h2, put_env_ne h1]
  have hob : ((st.put o v u).put p z y).ob = ((st.put p z y).put o v u).ob := by
    funext n
    show updL (updL st.ob u) y n = updL (updL st.ob y) u n
    by_cases h1 : unm u n
    · rw [updL_not _ _ (hu n h1)]; exact updL_mem _ _ _ h1
    · rw [updL_not u _ h1]
      by_cases h2 : unm y n
      · exact updL_mem _ _ _ h2
      · rw [updL_not _ _ h2, updL_not _ _ h2, updL_not _ _ h1]
  cases h1 : (st.put o v u).put p z y
  cases h2 : (st.put p z y).put o v u
  rw [h1, h2] at henv hob
  simp only at henv hob
  rw [henv, hob]
theorem stF_append : ∀ (x y : Lz) (L : Nat → Bool) (i : Nat) (st : St), stF (x ++ y) L i st = stF y L (i + x.length) (stF x L i st)
  | [], _, _, _, _ => rfl
  | (o, e) :: x, y, L, i, st => by
    show stF (x ++ y) L (i + 1) _ = _
    rw [stF_append x y]
    simp only [List.length_cons]
    rw [show i + 1 + x.length = i + (x.length + 1) by omega]
    rfl
/-- A state's slot and object behind operations that do not write them. -/
theorem stF_env {t : Nat} : ∀ (x : Lz) (L : Nat → Bool) (i : Nat) (st : St), (∀ (j : Nat) oe, x[j]? = some oe → L (i + j) = true → oe.1.dst ≠ some t) → (stF x L i st).env t = st.env t
  | [], _, _, _, _ => rfl
  | (o, e) :: x, L, i, st, h => by
    unfold stF
    rw [stF_env x L (i + 1) _ fun j oe hj hl => h (j + 1) oe (by simpa using hj) (by rw [← hl]; congr 1; omega)]
    split
    · rename_i hl
      exact put_env_ne (h 0 (o, e) rfl hl)
    · rfl
theorem stF_ob {n : Nat} : ∀ (x : Lz) (L : Nat → Bool) (i : Nat) (st : St), (∀ (j : Nat) oe, x[j]? = some oe → L (i + j) = true → ¬ unm oe.2.u n) → (stF x L i st).ob n = st.ob n
  | [], _, _, _, _ => rfl
  | (o, e) :: x, L, i, st, h => by
    unfold stF
    rw [stF_ob x L (i + 1) _ fun j oe hj hl => h (j + 1) oe (by simpa using hj) (by rw [← hl]; congr 1; omega)]
    split
    · rename_i hl
      exact updL_not _ _ (h 0 (o, e) rfl hl)
    · rfl
theorem stF_noflat {n : Nat} : ∀ (x : Lz) (L : Nat → Bool) (i : Nat) (st : St), (∀ sz ys, st.ob n ≠ some (.flat sz ys)) → (∀ oe ∈ x, ∀ o, (n, o) ∈ oe.2.u → ∀ sz ys, o ≠ .flat sz ys) → ∀ sz ys, (stF x L i st).ob n ≠ some (.flat sz ys)
  | [], _, _, _, h, _ => h
  | (o, e) :: x, L, i, st, h, hx => by
    unfold stF
    refine stF_noflat x L (i + 1) _ ?_ fun oe hm => hx oe (by simp [hm])
    split
    · have hx := hx (o, e) (by simp)
      simp only at hx
      show ∀ sz ys, updL st.ob e.u n ≠ _
      generalize e.u = u at hx
      intro sz ys hf
      have : ∀ (u : Ups) (ob : Nat → Option OB), (∀ o, (n, o) ∈ u → ∀ sz ys, o ≠ OB.flat sz ys) → (∀ sz ys, ob n ≠ some (.flat sz ys)) → ∀ sz ys, updL ob u n ≠ some (.flat sz ys) := by
        intro u
        induction u with
        | nil => intro ob _ h; exact h
        | cons p r ih =>
          obtain ⟨k, p⟩ := p
          intro ob h1 h2
          rw [updL_cons]
          refine ih _ (fun o ho => h1 o (by simp [ho])) ?_
          intro sz ys
          by_cases hk : n = k
          · subst hk; rw [upd_same]; intro he; cases he; exact h1 _ (by simp) sz ys rfl
          · rw [upd_other _ _ hk]; exact h2 sz ys
      exact this u st.ob hx h sz ys hf
    · exact h
/-- Two sets of operations leave a slot alike, if what the one lacks does not write it. -/
theorem stF_env2 {t : Nat} : ∀ (x : Lz) (L L' : Nat → Bool) (i : Nat) (st st' : St), st.env t = st'.env t → (∀ (j : Nat) oe, x[j]? = some oe → L (i + j) ≠ L' (i + j) → oe.1.dst ≠ some t) → (stF x L i st).env t = (stF x L' i st').env t
  | [], _, _, _, _, _, h, _ => h
  | (o, e) :: x, L, L', i, st, st', h0, h => by
    unfold stF
    refine stF_env2 x L L' (i + 1) _ _ ?_ fun j oe hj hl => h (j + 1) oe (by simpa using hj) (by rw [show i + (j + 1) = i + 1 + j by omega]; exact hl)
    by_cases hd : o.dst = some t
    · have : L i = L' i := by
        apply Classical.byContradiction
        intro hne; exact h 0 (o, e) rfl hne hd
      rw [this]
      split
      · rw [put_env_eq hd, put_env_eq hd]
      · exact h0
    · split <;> split <;> simp only [put_env_ne hd, h0]
theorem stF_ob2 {n : Nat} : ∀ (x : Lz) (L L' : Nat → Bool) (i : Nat) (st st' : St), st.ob n = st'.ob n → (∀ (j : Nat) oe, x[j]? = some oe → L (i + j) ≠ L' (i + j) → ¬ unm oe.2.u n) → (stF x L i st).ob n = (stF x L' i st').ob n
  | [], _, _, _, _, _, h, _ => h
  | (o, e) :: x, L, L', i, st, st', h0, h => by
    unfold stF
    refine stF_ob2 x L L' (i + 1) _ _ ?_ fun j oe hj hl => h (j + 1) oe (by simpa using hj) (by rw [show i + (j + 1) = i + 1 + j by omega]; exact hl)
    by_cases hd : unm e.u n
    · have : L i = L' i := by
        apply Classical.byContradiction
        intro hne; exact h 0 (o, e) rfl hne hd
      rw [this]
      split
      · exact updL_mem _ _ _ hd
      · exact h0
    · have hput : ∀ st : St, (st.put o e.v e.u).ob n = st.ob n := fun st => updL_not _ _ hd
      split <;> split <;> simp only [hput, h0]
/-- One more operation: it may be put last. -/
theorem stF_late : ∀ (x : Lz) (L : Nat → Bool) (i : Nat) (st : St) (o : Oper) (e : En), (∀ (j : Nat) oe, x[j]? = some oe → L (i + j) = true → (∀ d, o.dst = some d → oe.1.dst ≠ some d) ∧ ∀ n, unm e.u n → ¬ unm oe.2.u n) →
    stF x L i (st.put o e.v e.u) = (stF x L i st).put o e.v e.u
  | [], _, _, _, _, _, _ => rfl
  | (p, f) :: x, L, i, st, o, e, h => by
    unfold stF
    have ih := fun st => stF_late x L (i + 1) st o e fun j oe hj hl => h (j + 1) oe (by simpa using hj) (by rw [← hl]; congr 1; omega)
    split
    · rename_i hl
      obtain ⟨h1, h2⟩ := h 0 (p, f) rfl hl
      rw [put_comm h1 h2]
      exact ih _
    · exact ih _
theorem Run_split {ops : Array Oper} : ∀ (x : Lz) (o : Oper) (e : En) (y : Lz) (st : St) (i : Nat), Run P ops (x ++ (o, e) :: y) st → RunOp P ops (stF x (fun _ => true) i st) o e
  | [], _, _, _, _, _, h => h.1
  | (p, f) :: x, o, e, y, st, i, h => by
    unfold stF
    rw [if_pos rfl]
    exact Run_split x o e y _ (i + 1) h.2
end Go.Proofs.Ytmcekkllkfccjaa.Vs

end

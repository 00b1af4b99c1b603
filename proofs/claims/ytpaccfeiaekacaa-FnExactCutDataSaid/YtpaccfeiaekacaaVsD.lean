import Derived.Test.YtpaccfeiaekacaaVsC
namespace Go.Proofs.Ytpaccfeiaekacaa.Vs
set_option linter.unusedVariables false
set_option linter.unusedSimpArgs false
set_option linter.unusedSectionVars false
set_option linter.unnecessarySimpa false
set_option linter.all false
open Go.RowKit
variable {P : Program}
def updL (ob : Nat → Option OB) (u : Ups) : Nat → Option OB := u.foldl (fun f p => upd f p.1 (some p.2)) ob
theorem updL_nil (ob : Nat → Option OB) : updL ob [] = ob := rfl
theorem updL_cons (ob : Nat → Option OB) (p : Nat × OB) (u : Ups) : updL ob (p :: u) = updL (upd ob p.1 (some p.2)) u := rfl
theorem updL_append (ob : Nat → Option OB) (u u' : Ups) : updL ob (u ++ u') = updL (updL ob u) u' := by simp [updL]
theorem updL_none {ob : Nat → Option OB} : ∀ {u : Ups} {n : Nat}, updL ob u n = none → ob n = none
  | [], _, h => h
  | p :: u, n, h => by
    rw [updL_cons] at h
    have := updL_none h
    by_cases hn : n = p.1
    · subst hn; simp [upd_same] at this
    · rwa [upd_other _ _ hn] at this
section
variable {C : Cx} {st : St} {a : Act} {w : World} {I : Nat → Prop} {β : Beta} {φ : Nat → List Nat}
theorem heap_alloc_old (w : World) (o : Obj) {b : Nat} (hb : b < w.heap.size) : (w.alloc o).heap[b]? = w.heap[b]? := Below.heap_alloc w o b hb
theorem heap_alloc_new (w : World) (o : Obj) : (w.alloc o).heap[w.heap.size]? = some o := by show (w.heap.push o)[w.heap.size]? = _; simp
theorem size_alloc (w : World) (o : Obj) : (w.alloc o).heap.size = w.heap.size + 1 := by show (w.heap.push o).size = _; simp
theorem evo_alloc (S : Nat → Prop) (w : World) (o : Obj) : Evo S w (w.alloc o) := ⟨rfl, rfl, rfl, by rw [size_alloc]; omega, fun _ hb _ => heap_alloc_old w o hb⟩
theorem evo_drew (S : Nat → Prop) (w : World) : Evo S w w.drew := (Evo.refl S w).drew
/-- A draw. -/
theorem Conc.drew (h : Conc C st a w I β φ) : Conc C st a w.drew I β φ :=
  h.move (ob' := st.ob) (fun _ => False) (evo_drew _ w) (fun _ hf => hf.elim) (fun _ hb => hb) (fun _ hb => .inl hb) (fun _ _ hb => hb) (fun _ _ ho => .inl ⟨ho, rfl, fun _ _ hf => hf⟩) h.dom h.fdom h.sep h.nimm h.flt h.wok h.fnew
/-- A new object in a new block. -/
theorem Conc.new (h : Conc C st a w I β φ) {nm : Nat} (hn : st.ob nm = none) (o : Obj) (ob : OB) (bl : Bl)
    (hro : ∀ I', (∀ b, I b → I' b) → RO (w.alloc o) I' (upd β nm (some bl)) nm ob [w.heap.size]) :
    Conc C { st with ob := upd st.ob nm (some ob) } a (w.alloc o) I (upd β nm (some bl)) (upd φ nm [w.heap.size]) := by
  have hβn : β nm = none := h.dom nm hn
  refine h.move (fun _ => False) (evo_alloc _ w o) (fun _ hf => hf.elim) (fun _ hb => hb) (fun _ hb => .inl hb) ?_ ?_ ?_ ?_ ?_ ?_ ?_ ?_ ?_
  · intro n bl' hb
    rw [upd_other]
    · exact hb
    · rintro rfl; rw [hβn] at hb; cases hb
  · intro n o' ho
    by_cases hnn : n = nm
    · subst hnn
      simp only [upd_same, Option.some.injEq] at ho ⊢
      subst ho
      exact .inr (hro I fun _ hb => hb)
    · rw [upd_other _ _ hnn] at ho
      exact .inl ⟨ho, upd_other _ _ hnn, fun _ _ hf => hf⟩
  · intro n ho
    have hnn : n ≠ nm := by rintro rfl; simp [upd_same] at ho
    rw [upd_other _ _ hnn] at ho ⊢
    exact h.dom n ho
  · intro n ho
    have hnn : n ≠ nm := by rintro rfl; simp [upd_same] at ho
    rw [upd_other _ _ hnn] at ho ⊢
    exact h.fdom n ho
  · intro n m hnm b hb hb'
    by_cases h1 : n = nm
    · subst h1
      rw [upd_same] at hb
      rw [upd_other _ _ (Ne.symm hnm)] at hb'
      have := (h.flt m b hb').1
      simp at hb; omega
    · rw [upd_other _ _ h1] at hb
      by_cases h2 : m = nm
      · subst h2
        rw [upd_same] at hb'
        have := (h.flt n b hb).1
        simp at hb'; omega
      · rw [upd_other _ _ h2] at hb'
        exact h.sep n m hnm b hb hb'
  · intro n b hb hi
    by_cases h1 : n = nm
    · subst h1
      rw [upd_same] at hb
      have := h.immLt b hi
      simp at hb; omega
    · rw [upd_other _ _ h1] at hb
      exact h.nimm n b hb hi
  · intro n b hb
    rw [size_alloc]
    by_cases h1 : n = nm
    · subst h1
      rw [upd_same] at hb
      simp at hb; subst hb
      exact ⟨by omega, .inr (.inr h.evo.size)⟩
    · rw [upd_other _ _ h1] at hb
      have := h.flt n b hb
      exact ⟨by omega, this.2⟩
  · intro n cs ho hwr b hb hy
    by_cases h1 : n = nm
    · subst h1
      rw [upd_same] at hb
      simp at hb; subst hb
      have := h.ylt _ hy
      have := h.evo.size
      omega
    · rw [upd_other _ _ h1] at hb ho
      exact h.wok n cs ho hwr b hb hy
  · intro n sz xs ho b hb
    by_cases h1 : n = nm
    · subst h1
      rw [upd_same] at hb
      simp at hb; subst hb
      exact h.evo.size
    · rw [upd_other _ _ h1] at hb ho
      exact h.fnew n sz xs ho b hb
/-- One object's block is written. -/
theorem Conc.write (h : Conc C st a w I β φ) {n : Nat} {w' : World} (ob : OB) (hob : st.ob n ≠ none) (hnew : ∀ sz xs, ob = .flat sz xs → ∀ b, b ∈ φ n → C.w0.heap.size ≤ b) (hY : ∀ b, b ∈ φ n → ¬ C.Y b) (hev : Evo (· ∈ φ n) w w') 
    (hro : RO w' I β n ob (φ n)) :
    Conc C { st with ob := upd st.ob n (some ob) } a w' I β φ := by
  have hdom : ∀ m, upd st.ob n (some ob) m = none → st.ob m = none := by
    intro m ho
    by_cases hm : m = n
    · subst hm; simp [upd_same] at ho
    · rwa [upd_other _ _ hm] at ho
  refine h.move (· ∈ φ n) hev (fun b hb => ⟨n, hb, hY b hb⟩) (fun _ hb => hb) (fun _ hb => .inl hb) (fun _ _ hb => hb) ?_ (fun m ho => h.dom m (hdom m ho)) (fun m ho => h.fdom m (hdom m ho)) h.sep h.nimm
    (fun m b hb => ⟨Nat.lt_of_lt_of_le (h.flt m b hb).1 hev.size, (h.flt m b hb).2⟩) ?_ ?_
  case refine_2 =>
    intro m cs ho hwr b hb
    by_cases hm : m = n
    · subst hm; exact hY b hb
    · rw [upd_other _ _ hm] at ho
      exact h.wok m cs ho hwr b hb
  case refine_3 =>
    intro m sz xs ho b hb
    by_cases hm : m = n
    · subst hm
      simp only [upd_same, Option.some.injEq] at ho
      exact hnew sz xs ho b hb
    · rw [upd_other _ _ hm] at ho
      exact h.fnew m sz xs ho b hb
  intro m o ho
  by_cases hm : m = n
  · subst hm
    simp only [upd_same, Option.some.injEq] at ho
    subst ho
    exact .inr hro
  · rw [upd_other _ _ hm] at ho
    exact .inl ⟨ho, rfl, fun b hb hb' => h.sep m n hm b hb hb'⟩
/-- An own row is frozen. -/
theorem Conc.freeze (h : Conc C st a w I β φ) {n sz : Nat} {xs : List (List AV)} (hob : st.ob n = some (.flat sz xs)) :
    ∃ I', (∀ b, I b → I' b) ∧ Conc C { st with ob := upd st.ob n (some (.shared sz xs)) } a w I' β (upd φ n []) := by
  obtain ⟨bl, h1, h2, h3, h4, h5⟩ := h.ob n _ hob
  have hX : ∀ b, b ∈ φ n → ¬ C.X b := fun b hb hx => by
    have := h.fnew n _ _ hob b hb
    have := h.xlt b hx
    omega
  have hφ : ∀ m b, b ∈ upd φ n [] m → m ≠ n ∧ b ∈ φ m := by
    intro m b hb
    by_cases hm : m = n
    · subst hm; simp [upd_same] at hb
    · rw [upd_other _ _ hm] at hb; exact ⟨hm, hb⟩
  refine ⟨fun b => I b ∨ b ∈ φ n, fun b hb => .inl hb, ?_⟩
  have hdom : ∀ m, upd st.ob n (some (OB.shared sz xs)) m = none → st.ob m = none := by
    intro m ho
    by_cases hm : m = n
    · subst hm; simp [upd_same] at ho
    · rwa [upd_other _ _ hm] at ho
  refine h.move (fun _ => False) (Evo.refl _ w) (fun _ hf => hf.elim) (fun b hb => .inl hb) ?_ (fun _ _ hb => hb) ?_ (fun m ho => h.dom m (hdom m ho)) ?_ ?_ ?_ ?_ ?_ ?_
  · rintro b (hb | hb)
    · exact .inl hb
    · have := h.flt n b hb
      exact .inr (.inr ⟨this.1, h.fnew n _ _ hob b hb⟩)
  · intro m o ho
    by_cases hm : m = n
    · subst hm
      simp only [upd_same, Option.some.injEq] at ho
      subst ho
      refine .inr ⟨bl, h1, h2, h3, h4, by rw [upd_same], ?_⟩
      rcases h5 with ⟨h5, -⟩ | ⟨h5, -, h6⟩
      · exact .inl h5
      · exact .inr ⟨.inr (by rw [h5]; simp), RIe_own (fun b hb => .inl hb) (fun _ _ => rfl) _ rfl _ _ _ h6⟩
    · rw [upd_other _ _ hm] at ho
      exact .inl ⟨ho, upd_other _ _ hm, fun _ _ hf => hf⟩
  · intro m ho
    by_cases hm : m = n
    · subst hm; rw [upd_same]
    · rw [upd_other _ _ hm]; exact h.fdom m (hdom m ho)
  · intro m k hmk b hb hb'
    exact h.sep m k hmk b (hφ m b hb).2 (hφ k b hb').2
  · intro m b hb hi
    obtain ⟨hm, hb⟩ := hφ m b hb
    rcases hi with hi | hi
    · exact h.nimm m b hb hi
    · exact h.sep m n hm b hb hi
  · intro m b hb
    exact h.flt m b (hφ m b hb).2
  · intro m cs ho hwr b hb
    obtain ⟨hm, hb⟩ := hφ m b hb
    rw [upd_other _ _ hm] at ho
    exact h.wok m cs ho hwr b hb
  · intro m sz xs ho b hb
    obtain ⟨hm, hb⟩ := hφ m b hb
    rw [upd_other _ _ hm] at ho
    exact h.fnew m sz xs ho b hb
end
end Go.Proofs.Ytpaccfeiaekacaa.Vs

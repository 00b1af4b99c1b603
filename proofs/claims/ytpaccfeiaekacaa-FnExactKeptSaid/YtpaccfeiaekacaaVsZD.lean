import Derived.Test.YtpaccfeiaekacaaVsZC
namespace Go.Proofs.Ytpaccfeiaekacaa.Vs
set_option linter.unusedVariables false
set_option linter.unusedSimpArgs false
set_option linter.unusedSectionVars false
set_option linter.unnecessarySimpa false
set_option linter.all false
open Go.RowKit
variable {P : Program}
/-! ### Ways that meet, and loops, by what a state entails -/
/-- Whatever stands for s stands for s' too. -/
def LeS (fs : List Nat) (s s' : St) : Prop := ∀ C a w, (∀ n, C.β0 n ≠ none → n ∈ fs) → CC C s a w → CC C s' a w
/-- The slots that are written out; what else stands there is forgotten. -/
def lkE (e : List (Nat × AV)) : Nat → AV := fun n => (lk e n).getD .undef
theorem lkE_app (e : List (Nat × AV)) (n : Nat) : lkE e n = (lk e n).getD .undef := (rfl)
theorem lk_nil {α : Type} (n : Nat) : lk ([] : List (Nat × α)) n = none := (rfl)
theorem lk_cons {α : Type} (k : Nat) (v : α) (r : List (Nat × α)) (n : Nat) : lk ((k, v) :: r) n = bif n == k then some v else lk r n := (rfl)
section
variable {nt : Nat} {fs : List Nat} {Q : AExit → St → Prop} {st : St}
theorem LeS.refl (s : St) : LeS fs s s := fun _ _ _ _ h => h
theorem LeS.trans {s s' s'' : St} (h : LeS fs s s') (k : LeS fs s' s'') : LeS fs s s'' := fun C a w hf hc => k C a w hf (h C a w hf hc)
theorem LeS.kp {s : St} (e : List (Nat × AV)) (he : KpE s e) : LeS fs s { env := lkE e, ob := s.ob } := by
  intro C a w hf hC
  obtain ⟨I, β, φ, hC⟩ := hC
  refine ⟨I, β, φ, { hC with env := fun t => ?_, ob := hC.ob, dom := hC.dom, fdom := hC.fdom, wok := hC.wok, fnew := hC.fnew, dfr := hC.dfr }⟩
  show Rv w I β ((lk e t).getD .undef) _
  cases hl : lk e t with
  | none => exact trivial
  | some v => rw [← KpE_get he t v hl]; exact hC.env t
theorem LeS.frz {s : St} (Z : List Nat) : LeS fs s { s with ob := updL s.ob (frzU s Z) } := by
  intro C a w hf hC
  obtain ⟨I, β, φ, hC⟩ := hC
  obtain ⟨I', φ', -, hC'⟩ := frz_sound (st := s) Z s I φ (fun n => .inl rfl) hC
  exact ⟨I', β, φ', hC'⟩
theorem LeS.le {s : St} {ρ : Ren} {e : List (Nat × AV)} {os : List (Nat × OB)} (h : LeSt fs s ρ e os) : LeS fs s { env := lkE e, ob := lk os } := by
  intro C a w hf hC
  obtain ⟨I, β, φ, hC⟩ := hC
  exact LeSt.sound hC hf h
theorem AW_le {c : Code} {s' : St} (h : LeS fs st s') (hw : AW P nt fs c Q s') : AW P nt fs c Q st := fun C a w hn hf hC => hw C a w hn hf (h C a w hf hC)
/-- Slots are forgotten. -/
theorem AW_k {c : Code} (e : List (Nat × AV)) (he : KpE st e) (h : AW P nt fs c Q { env := lkE e, ob := st.ob }) : AW P nt fs c Q st := AW_le (LeS.kp e he) h
/-- The end: one result, a variable's. -/
theorem end_cell {rs : List ResultVar} {r v : AV} {t : Nat} {T : TypeId} {p : Prop} {u : Ups} (hrs : rs = [.cell t T]) (hv : aLoad P st T (st.env t) = some (p, v, u)) (hp : p) (hm : am2 st (fun _ => none) v r) : endQ P rs r [] st := by
  subst hrs
  refine ⟨p ∧ True, [v], ?_, ⟨hp, trivial⟩, ?_, trivial⟩
  · simp only [resAll, resOne, hv]
  · cases r <;> exact hm
theorem upd_app {α : Type} (f : Nat → α) (n : Nat) (v : α) (m : Nat) : upd f n v m = bif m == n then v else f m := (rfl)
theorem upd_upd {α : Type} (f : Nat → α) (n : Nat) (v w : α) : upd (upd f n v) n w = upd f n w := by
  funext m
  by_cases h : m = n
  · subst h; simp [upd]
  · simp [upd]; cases hb : (m == n) <;> simp
theorem wrap64 {n : Int} (h0 : -9223372036854775808 ≤ n) (h1 : n < 9223372036854775808) : IntKind.i64.wrap n = n := by
  simp [IntKind.wrap, IntKind.bits, IntKind.signed]
  omega
def cutS (fs : List Nat) (J : St → Prop) (Q : AExit → St → Prop) : AExit → St → Prop
  | .normal, s => ∃ s', LeS fs s s' ∧ J s'
  | e, s => Q e s
/-- Behind x the ways meet: J holds of each state. -/
theorem AW_cutS {x y : Code} (J : St → Prop) (h1 : AW P nt fs x (cutS fs J Q) st) (h2 : ∀ s, J s → AW P nt fs y Q s) : AW P nt fs (.seq x y) Q st := by
  intro C a w hn hf hC
  refine wp_seq (wp_mono (h1 C a w hn hf hC) ?_)
  intro e a w hh
  cases e with
  | normal =>
    obtain ⟨s, ⟨s', g1, g2⟩, g3⟩ := hh
    exact h2 s' g2 C a w hn hf (g1 C a w hf g3)
  | exit i => obtain ⟨s, h1, h2⟩ := hh; exact ⟨s, h1, h2⟩
  | ret => obtain ⟨s, h1, h2⟩ := hh; exact ⟨s, h1, h2⟩
  | _ => exact hh.elim
def loopS (fs : List Nat) (J : Nat → St → Prop) (m : Nat) (Q : AExit → St → Prop) : AExit → St → Prop
  | .normal, s => ∃ s', LeS fs s s' ∧ ∃ m', m' < m ∧ J m' s'
  | e, s => Q e s
/-- A loop: J m: the states at a round's head, m the measure. -/
theorem AW_loopS {c : Code} (J : Nat → St → Prop) (h0 : ∃ s', LeS fs st s' ∧ ∃ m, J m s') (h1 : ∀ m s, J m s → AW P nt fs c (loopS fs J m Q) s) : AW P nt fs (.loop c) Q st := by
  intro C a w hn hf hC
  obtain ⟨s0, hle, m, hJ⟩ := h0
  have h2 := hle C a w hf hC
  clear hC
  have key : ∀ m s a w, J m s → CC C s a w → ∀ (b : Frame) (k : List Item) (cs : List Frame),
      ∃ x a' w', QQ C Q x a' w' ∧ Arrives P (lone (b.at a (.code c :: .inLoop c :: k)) cs w) b k cs x a' w' := by
    intro m
    induction m using Nat.strongRecOn with
    | _ m ih =>
      intro s a w hJ hC b k cs
      obtain ⟨x, a₁, w₁, hq, harr⟩ := h1 m s hJ C a w hn hf hC b (.inLoop c :: k) cs
      cases x with
      | normal =>
        obtain ⟨s1, ⟨s', g1, m', g2, g3⟩, g4⟩ := hq
        obtain ⟨x₂, a₂, w₂, hq₂, harr₂⟩ := ih m' g2 s' a₁ w₁ g3 (g1 C a₁ w₁ hf g4) b k cs
        exact ⟨x₂, a₂, w₂, hq₂, .of_steps (Steps.trans harr (.one step_inLoop)) harr₂⟩
      | exit i => obtain ⟨s, g1, g2⟩ := hq; exact ⟨.exit i, a₁, w₁, ⟨s, g1, g2⟩, .pass (x := .inLoop c) rfl (fun _ _ => .inl (by simp)) harr⟩
      | ret => obtain ⟨s, g1, g2⟩ := hq; exact ⟨.ret, a₁, w₁, ⟨s, g1, g2⟩, .pass (x := .inLoop c) rfl (fun _ _ => .inl (by simp)) harr⟩
      | goto l => exact hq.elim
      | panic ch => exact hq.elim
      | outgrown => exact hq.elim
  intro b k cs
  obtain ⟨x, a', w', hq, harr⟩ := key m s0 a w hJ h2 b k cs
  exact ⟨x, a', w', hq, .of_steps (.one step_loop) harr⟩
end
end Go.Proofs.Ytpaccfeiaekacaa.Vs

import Derived.Test.YtpaccfeiaekacaaVsZF
namespace Go.Proofs.Ytpaccfeiaekacaa.Vs
set_option linter.unusedVariables false
set_option linter.unusedSimpArgs false
set_option linter.unusedSectionVars false
set_option linter.unnecessarySimpa false
set_option linter.all false
open Go.RowKit
variable {P : Program}
/-! ### The end of a walk, by simp -/
section
variable {st : St} {ν : Nat → Option Nat}
theorem am0_gg (v v' : Value) : am0 st ν (.g v) (.g v') = (v' = v) := by unfold am0; split <;> simp_all
theorem am0_ss (v v' : List UInt8) : am0 st ν (.s v) (.s v') = (v' = v) := (rfl)
theorem am0_ll (s s' : Nat) (v v' : List (List AV)) : am0 st ν (.sl s v) (.sl s' v') = (s' = s ∧ v' = v) := (rfl)
theorem am0_nl (s' : Nat) (v' : List (List AV)) : am0 st ν (.g (.slice none 0 0)) (.sl s' v') = (v' = []) := (rfl)
theorem am0_al (n o l s : Nat) (xs : List (List AV)) : am0 st ν (.arr n o l) (.sl s xs) = (∃ ys, (st.ob n = some (.flat s ys) ∨ st.ob n = some (.shared s ys)) ∧ o + l ≤ ys.length ∧ xs = (ys.drop o).take l) := (rfl)
theorem am1_gg (v v' : Value) : am1 st ν (.g v) (.g v') = (v' = v) := am0_gg v v'
theorem am1_ss (v v' : List UInt8) : am1 st ν (.s v) (.s v') = (v' = v) := (rfl)
theorem am1_ll (s s' : Nat) (v v' : List (List AV)) : am1 st ν (.sl s v) (.sl s' v') = (s' = s ∧ v' = v) := (rfl)
theorem am1_nl (s' : Nat) (v' : List (List AV)) : am1 st ν (.g (.slice none 0 0)) (.sl s' v') = (v' = []) := (rfl)
theorem am1_al (n o l s : Nat) (xs : List (List AV)) : am1 st ν (.arr n o l) (.sl s xs) = (∃ ys, (st.ob n = some (.flat s ys) ∨ st.ob n = some (.shared s ys)) ∧ o + l ≤ ys.length ∧ xs = (ys.drop o).take l) := (rfl)
theorem am2_gg (v v' : Value) : am2 st ν (.g v) (.g v') = (v' = v) := am0_gg v v'
theorem am2_ss (v v' : List UInt8) : am2 st ν (.s v) (.s v') = (v' = v) := (rfl)
theorem am2_ll (s s' : Nat) (v v' : List (List AV)) : am2 st ν (.sl s v) (.sl s' v') = (s' = s ∧ v' = v) := (rfl)
theorem am2_nl (s' : Nat) (v' : List (List AV)) : am2 st ν (.g (.slice none 0 0)) (.sl s' v') = (v' = []) := (rfl)
theorem am2_al (n o l s : Nat) (xs : List (List AV)) : am2 st ν (.arr n o l) (.sl s xs) = (∃ ys, (st.ob n = some (.flat s ys) ∨ st.ob n = some (.shared s ys)) ∧ o + l ≤ ys.length ∧ xs = (ys.drop o).take l) := (rfl)
theorem am2_ff (cs cs' : List AV) : am2 st ν (.agg cs) (.agg cs') = am1s st ν cs cs' := (rfl)
theorem am1s_nn : am1s st ν [] [] = True := by simp [am1s]
theorem am1s_cc (a b : AV) (l m : List AV) : am1s st ν (a :: l) (b :: m) = (am1 st ν a b ∧ am1s st ν l m) := (rfl)
theorem am2s_nn : am2s st ν [] [] = True := by simp [am2s]
theorem am2s_cc (a b : AV) (l m : List AV) : am2s st ν (a :: l) (b :: m) = (am2 st ν a b ∧ am2s st ν l m) := (rfl)
theorem amRs_one (v r : AV) : amRs st [v] r = am2 st (fun _ => none) v r := (rfl)
theorem amRs_two' (v w : AV) (rs : List AV) : amRs st [v, w] (.tup rs) = am2s st (fun _ => none) [v, w] rs := (rfl)
theorem amRs_thr (v w x : AV) (rs : List AV) : amRs st [v, w, x] (.tup rs) = am2s st (fun _ => none) [v, w, x] rs := (rfl)
theorem amRs_none (rs : List AV) : amRs st [] (.tup rs) = am2s st (fun _ => none) [] rs := (rfl)
def endR (x : Option (Prop × List AV)) (st : St) (r : AV) : Prop := match x with
  | some (p, vs) => p ∧ amRs st vs r
  | none => False
theorem endR_some (p : Prop) (vs : List AV) (r : AV) : endR (some (p, vs)) st r = (p ∧ amRs st vs r) := (rfl)
theorem end_s {rs : List ResultVar} {r : AV} (h : endR (resAll P st rs) st r) : endQ P rs r [] st := by
  unfold endR at h
  split at h
  · rename_i p vs h1
    exact ⟨p, vs, h1, h.1, h.2, trivial⟩
  · exact h.elim
theorem resAll_nil : resAll P st [] = some (True, []) := (rfl)
theorem resAll_tmp (t : Nat) (r : List ResultVar) : resAll P st (.tmp t :: r) = match resAll P st r with | some (q, vs) => some (True ∧ q, st.env t :: vs) | none => none := by
  show (match some (True, st.env t, ([] : Ups)), resAll P st r with | some (p, v, _), some (q, vs) => some (p ∧ q, v :: vs) | _, _ => none) = _
  cases resAll P st r <;> rfl
theorem resAll_cell (t : Nat) (T : TypeId) (r : List ResultVar) : resAll P st (.cell t T :: r) = match aLoad P st T (st.env t), resAll P st r with | some (p, v, _), some (q, vs) => some (p ∧ q, v :: vs) | _, _ => none := (rfl)
end
theorem AW_id {nt : Nat} {fs : List Nat} {y : Code} {Q : AExit → St → Prop} {s : St} (h : AW P nt fs y Q s) : thenQ P nt fs y Q .normal s := h
theorem formOb_nn (n : Nat) : formOb [] [] n = none := by unfold formOb; split <;> simp
/-- A row of integers. -/
theorem ints_of {n : Nat} {t : TypeId} {k : IntKind} (hu : P.underlying t = some (.int k)) : ∀ (xs : List (List AV)), (∀ x ∈ xs, shp P n t x) → ∃ l : List Int, xs = l.map (fun z => [.g (.int k z)]) ∧ ∀ z ∈ l, (Lit.int k z).wf = true
  | [], _ => ⟨[], rfl, by simp⟩
  | x :: xs, h => by
    obtain ⟨l, rfl, hl⟩ := ints_of hu xs fun y hy => h y (by simp [hy])
    have hx := h x (by simp)
    cases n with
    | zero => exact hx.elim
    | succ n =>
      unfold shp at hx
      rw [hu] at hx
      obtain ⟨m, rfl, hm⟩ := hx
      exact ⟨m :: l, rfl, by simpa [hm] using hl⟩
/-- A row of strings. -/
theorem strs_of {n : Nat} {t : TypeId} (hu : P.underlying t = some .string) : ∀ (xs : List (List AV)), (∀ x ∈ xs, shp P n t x) → ∃ l : List (List UInt8), xs = l.map (fun z => [.s z]) ∧ ∀ z ∈ l, z.length ≤ maxLen
  | [], _ => ⟨[], rfl, by simp⟩
  | x :: xs, h => by
    obtain ⟨l, rfl, hl⟩ := strs_of hu xs fun y hy => h y (by simp [hy])
    have hx := h x (by simp)
    cases n with
    | zero => exact hx.elim
    | succ n =>
      unfold shp at hx
      rw [hu] at hx
      obtain ⟨m, rfl, hm⟩ := hx
      exact ⟨m :: l, rfl, by simpa [hm] using hl⟩
end Go.Proofs.Ytpaccfeiaekacaa.Vs

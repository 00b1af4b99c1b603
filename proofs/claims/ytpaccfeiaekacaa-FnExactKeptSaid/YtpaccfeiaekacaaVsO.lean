import Derived.Test.YtpaccfeiaekacaaVsN
namespace Go.Proofs.Ytpaccfeiaekacaa.Vs
set_option linter.unusedVariables false
set_option linter.unusedSimpArgs false
set_option linter.unusedSectionVars false
set_option linter.unnecessarySimpa false
set_option linter.all false
open Go.RowKit
variable {P : Program}
section
variable {C : Cx} {st : St} {a : Act} {w : World} {I : Nat → Prop} {β : Beta} {φ : Nat → List Nat}
theorem map_eq1 {α β : Type} {f : α → β} {l : List α} {x : β} (h : l.map f = [x]) : ∃ a, l = [a] ∧ f a = x := by
  match l, h with
  | [a], h => exact ⟨a, rfl, by simpa using h⟩
theorem map_eq2 {α β : Type} {f : α → β} {l : List α} {x y : β} (h : l.map f = [x, y]) : ∃ a b, l = [a, b] ∧ f a = x ∧ f b = y := by
  match l, h with
  | [a, b], h => exact ⟨a, b, rfl, by simpa using h⟩
theorem builtin_sound (hC : Conc C st a w I β φ) {nm : Nat} {b : Builtin} {ts : List TypeId} {args : List Operand} {o : Oper} {v : AV} {c : Prop} {u : Ups} {tsA : Array TypeId} {argsA : Array Operand} (hts : tsA.toList = ts) (hargs : argsA.toList = args)
    (ho : o.op = .call { callee := .builtin b, args := argsA, argTypes := tsA }) (h : aBuiltin P st nm b ts (args.map (ev st)) = some (c, v, u)) (hc : c) : GoodOp P C st a w o v u := by
  have hE : ∀ x, Rv w I β (ev st x) (a.eval x) := Rv_eval hC.env
  obtain ⟨dst, op, type, pos, aft, gd⟩ := o
  simp only at ho
  subst ho
  generalize hL : args.map (ev st) = L at h
  unfold aBuiltin at h
  split at h
  · -- len
    rename_i x
    obtain ⟨y, rfl, hx⟩ := map_eq1 hL
    have ha : argsA = #[y] := by apply Array.ext'; exact hargs
    subst ha
    have hy := hE y
    rw [hx] at hy
    unfold aLen at h
    split at h
    · rename_i t
      have htA : tsA = #[t] := by apply Array.ext'; exact hts
      subst htA
      have fin : ∀ (n : Nat) (p : Value), a.eval y = p → (Builtin.len_ #[t] type #[p]).run P w = .ok (.int .i64 n) w → GoodOp P C st a w ⟨dst, .call { callee := .builtin .len, args := #[y], argTypes := #[t] }, type, pos, aft, gd⟩ (.g (.int .i64 n)) [] := by
        rintro n p rfl hr
        exact goodOp_value hC (by simp [execOp, resolve, invoke, builtin, hr]) rfl
      split at h
      · rename_i T hT
        generalize hK : T.kind = K at h
        split at h
        · have ht := ti_string hT hK
          cases h
          exact fin _ _ hy (by simp [Builtin.len_, run_underlying ht, goInt, size_of_list])
        · have ht := ti_slice hT hK
          cases h
          obtain ⟨bl, hb, hle, hp | ⟨h0, a0, hp⟩⟩ := hy
          · exact fin _ _ hp (by simp [Builtin.len_, run_underlying ht, goInt])
          · refine fin _ _ hp ?_
            simp [Builtin.len_, run_underlying ht, goInt]
            omega
        · have ht := ti_slice hT hK
          cases h
          change RI w I (.sl _ _) _ at hy
          rw [RI] at hy
          obtain ⟨a', cap, hp, -⟩ := hy
          exact fin _ _ hp (by simp [Builtin.len_, run_underlying ht, goInt])
        · have ht := ti_slice hT hK
          cases h
          exact fin _ _ hy (by simp [Builtin.len_, run_underlying ht, goInt])
        · have ht := ti_array hT hK
          cases h
          exact fin _ _ rfl (by simp [Builtin.len_, run_underlying ht, goInt])
        · cases h
      · cases h
    · cases h
  · -- append
    rename_i s x
    obtain ⟨y, z, rfl, rfl, rfl⟩ := map_eq2 hL
    have ha : argsA = #[y, z] := by apply Array.ext'; exact hargs
    subst ha
    have := (append_sound (ty := type) hC (hE y) (hE z) h hc)
    have htA : tsA = ts.toArray := by apply Array.ext'; simpa using hts
    rw [← htA] at this
    exact this.op (by simp [execOp, resolve, invoke, builtin])
  · rename_i x y
    obtain ⟨p, q, rfl, h1', h2'⟩ := map_eq2 hL
    have ha : argsA = #[p, q] := by apply Array.ext'; exact hargs
    subst ha
    have h1 := hE p; have h2 := hE q
    rw [h1'] at h1; rw [h2'] at h2
    change a.eval p = _ at h1; change a.eval q = _ at h2
    cases h
    exact goodOp_value hC (y := .int .i64 (if y > x then y else x)) (by simp [execOp, resolve, invoke, builtin, h1, h2, Builtin.max_, Builtin.max2]) rfl
  · rename_i x y
    obtain ⟨p, q, rfl, h1', h2'⟩ := map_eq2 hL
    have ha : argsA = #[p, q] := by apply Array.ext'; exact hargs
    subst ha
    have h1 := hE p; have h2 := hE q
    rw [h1'] at h1; rw [h2'] at h2
    change a.eval p = _ at h1; change a.eval q = _ at h2
    cases h
    exact goodOp_value hC (y := .int .i64 (if y < x then y else x)) (by simp [execOp, resolve, invoke, builtin, h1, h2, Builtin.min_, Builtin.min2]) rfl
  · cases h
end
end Go.Proofs.Ytpaccfeiaekacaa.Vs

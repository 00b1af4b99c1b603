import Derived.Test.YtpaccfeiaekacaaVsXE
namespace Go.Proofs.Ytpaccfeiaekacaa.Vs
set_option linter.unusedVariables false
set_option linter.unusedSimpArgs false
set_option linter.unusedSectionVars false
set_option linter.unnecessarySimpa false
set_option linter.all false
open Go.RowKit
variable {P : Program}
/-! ### New rows of a call, frozen -/
def stFr (fos : List OB) : St := { env := fun _ => .undef, ob := postOb [] fos }
def axT (st : St) (r r' : AV) : Prop := match r with
  | .tup rs => (match r' with | .tup rs' => ax2s true st [] [] rs rs' | _ => False)
  | r => ax2 true st [] [] r r'
theorem pcall_of_xcall {f : FuncId} {args : List AV} {r r' : AV} {fos : List OB} (h : XCall P f args [] r [] fos) (ha : axT (stFr fos) r r') : PCall P f args r' := by
  obtain ⟨h1, -, -, -, h2⟩ := h
  refine ⟨h1, ?_⟩
  intro w I β vs hI hargs _ hn _ _ _
  have hβ : ∀ n, β n = none := fun n => hn n (fname_no n)
  refine (h2 w I β (fun _ => []) vs hI hargs (fun n _ => ⟨hβ n, rfl⟩) (fun n o ho => by rw [postOb_nn] at ho; cases ho) (by simp) (by simp)).mono ?_
  rintro e w' ⟨v, I', β', χ', rfl, hev, hII, hIn, hr, -, -, hpo, -, hχ⟩
  refine ⟨v, fun b => I' b ∨ ∃ n, b ∈ χ' n, rfl, hev.mono (by rintro b - ⟨n, hb⟩; simp at hb), fun b hb => .inl (hII b hb), ?_, ?_, rfl, by simp⟩
  · rintro b (hb | ⟨n, hb⟩)
    · exact hIn b hb
    · obtain ⟨-, g2, ⟨m, g3⟩ | g3⟩ := hχ n b hb
      · simp at g3
      · exact .inr ⟨g3, g2⟩
  · have hO : ∀ n o, (stFr fos).ob n = some o → RO w' I' β' n o (χ' n) := hpo
    have hV : (true = true → ∀ n, ([] : List Nat).contains n = false → ∀ b ∈ χ' n, I' b ∨ ∃ n, b ∈ χ' n) := fun _ n _ b hb => .inr ⟨n, hb⟩
    have hν : ∀ i n, nuX [] i = some n → ∀ bl, β' n = some bl → (fun _ => none : Beta) i = some bl := by
      intro i n h; unfold nuX at h; split at h <;> simp at h
    have hZ : ∀ n ∈ ([] : List Nat), ∃ bl, β' n = some bl ∧ bl.cap = 0 := by simp
    by_cases ht : ∃ rs, r = .tup rs
    · obtain ⟨rs, rfl⟩ := ht
      cases r' with
      | tup rs' =>
        obtain ⟨us, rfl, g⟩ := hr
        exact ⟨us, rfl, ax2s_sound hO (fun _ h => .inl h) hV hν hZ _ _ ha g⟩
      | _ => exact ha.elim
    · have h2 : Rv2 w' I' β' r v := Rv_Rv2 _ _ (fun vs e => ht ⟨vs, e⟩) hr
      have ha2 : ax2 true (stFr fos) [] [] r r' := by cases r <;> first | exact ha | exact (ht ⟨_, rfl⟩).elim
      exact Rv2_Rv _ _ (ax2_sound hO (fun _ h => .inl h) hV hν hZ _ _ ha2 h2)
theorem postOb_f1 (o : OB) (n : Nat) : postOb [] [o] n = lk [(16, o)] n := by
  unfold postOb
  rw [lk_cons, lk_nil]
  by_cases h : n = 16
  · subst h; simp
  · have : (n == 16) = false := by simpa using h
    rw [this]
    simp only [cond_false]
    split
    · split <;> simp
    · rw [List.getElem?_eq_none_iff]; simp; omega
theorem postOb_f (fos : List OB) (k : Nat) : postOb [] fos (16 + k) = fos[k]? := by
  unfold postOb
  rw [if_neg (by omega), show 16 + k - 16 = k by omega]
theorem stFr_ob (fos : List OB) (n : Nat) : (stFr fos).ob n = if n < 16 then none else fos[n - 16]? := by
  show postOb [] fos n = _
  unfold postOb
  split
  · split <;> simp
  · rfl
/-- One row. -/
theorem pcall_row {f : FuncId} {args : List AV} {n sz : Nat} {xs : List (List AV)} (h : XCall P f args [] (.arr 16 0 n) [] [.own sz xs]) (hn : n = xs.length) : PCall P f args (.sl sz xs) := by
  subst hn
  refine pcall_of_xcall h ?_
  refine (show ax2 true (stFr [.own sz xs]) [] [] (.arr 16 0 xs.length) (.sl sz xs) from ?_)
  rw [ax2_al]
  refine ⟨xs, .inr ⟨rfl, rfl, .inr (.inl ?_)⟩, by omega, by simp⟩
  rw [stFr_ob]; rfl
theorem take_map_n {α β : Type} (f : α → β) (l : List α) (n : Nat) (h : l.length ≤ n) : (l.map f).take n = l.map f := List.take_of_length_le (by simpa using h)
theorem scR_app (a b : List (List AV)) : scR (a ++ b) = (scR a && scR b) := by simp [scR]
theorem scR_cons (x : List AV) (xs : List (List AV)) : scR (x :: xs) = (x.all scal0 && scR xs) := by simp [scR]
theorem scal0_g (v : Value) : scal0 (.g v) = true := (rfl)
theorem scal0_s (v : List UInt8) : scal0 (.s v) = true := (rfl)
attribute [simp] scR_app scR_cons scal0_g scal0_s
/-- A scalar. -/
theorem pcall_scal {f : FuncId} {args : List AV} {v : Value} (h : XCall P f args [] (.g v) [] []) : PCall P f args (.g v) := pcall_of_xcall h rfl
end Go.Proofs.Ytpaccfeiaekacaa.Vs

import Derived.Test.YtpaccfeiaekacaaVsX
namespace Go.Proofs.Ytpaccfeiaekacaa.Vs
set_option linter.unusedVariables false
set_option linter.unusedSimpArgs false
set_option linter.unusedSectionVars false
set_option linter.unnecessarySimpa false
set_option linter.all false
open Go.RowKit
variable {P : Program}
/-! ### A region whose order is open -/
/-- What an operation did: was it wanted, its value, the objects that it turned, those that it looked at. -/
structure En where
  wd : Bool
  v : AV
  u : Ups
  R : Nat → Prop
/-- The indices that come ahead of each operation's, in every order. -/
def befGo : List Oper → List Nat → List Nat
  | [], acc => acc
  | o :: r, acc => befGo r (acc ++ [o.after.toList.foldl (fun m e => if Region.binds .any e = true ∧ e.on < acc.length then m ||| 2 ^ e.on ||| acc.getD e.on 0 else m) 0])
def bef (l : List Oper) (i j : Nat) : Bool := ((befGo l []).getD i 0).testBit j
/-- Every edge goes back; what is not ordered looks at no slot that the other writes. -/
def ordOk (l : List Oper) : Bool :=
  (List.range l.length).all fun i => match l[i]? with
    | some o => o.after.toList.all (fun e => !Region.binds .any e || decide (e.on < i)) && (List.range i).all fun j => bef l i j || (match l[j]? with | some p => p.apart l.toArray o | none => true)
    | none => true
def wantOk (ops : Array Oper) (st : St) (o : Oper) (e : En) : Prop :=
  match o.guard with
  | none => e.wd = true
  | some (j, want) => ∃ d, (ops[j]?).bind (·.dst) = some d ∧ ((∃ b, st.env d = .g (.bool b) ∧ e.wd = (b == want)) ∨ (∃ vs, st.env d = .g (.tuple vs) ∧ e.wd = false))
/-- Two states that one operation cannot tell apart. -/
def Agr (ops : Array Oper) (o : Oper) (R : Nat → Prop) (st' st : St) : Prop := (∀ t, t ∈ o.looksAt ops → st'.env t = st.env t) ∧ (∀ n, R n → st'.ob n = st.ob n) ∧ ∀ n, ¬ R n → ∀ sz ys, st'.ob n ≠ some (.flat sz ys)
def RunOp (P : Program) (ops : Array Oper) (st : St) (o : Oper) (e : En) : Prop :=
  wantOk ops st o e ∧ (e.wd = true → ∀ st', Agr ops o e.R st' st → AStep P st' o e.v e.u) ∧ (e.wd = false → e.v = .g undef ∧ e.u = [])
abbrev Lz := List (Oper × En)
def stF : Lz → (Nat → Bool) → Nat → St → St
  | [], _, _, st => st
  | (o, e) :: r, L, i, st => stF r L (i + 1) (if L i = true then st.put o e.v e.u else st)
def Run (P : Program) (ops : Array Oper) : Lz → St → Prop
  | [], _ => True
  | (o, e) :: r, st => RunOp P ops st o e ∧ Run P ops r (st.put o e.v e.u)
def unm (u : Ups) (n : Nat) : Prop := ∃ o, (n, o) ∈ u
/-- Objects: two operations may be exchanged. -/
def obApart (x y : En) : Prop := ∀ n, (unm x.u n → ¬ y.R n ∧ ¬ unm y.u n) ∧ (unm y.u n → ¬ x.R n)
theorem updL_not {n : Nat} : ∀ (u : Ups) (ob : Nat → Option OB), ¬ unm u n → updL ob u n = ob n
  | [], ob, _ => rfl
  | (k, o) :: r, ob, h => by
    rw [updL_cons, updL_not r _ fun ⟨p, hp⟩ => h ⟨p, by simp [hp]⟩, upd_other]
    rintro rfl
    exact h ⟨o, by simp⟩
theorem updL_mem {n : Nat} : ∀ (u : Ups) (ob ob' : Nat → Option OB), unm u n → updL ob u n = updL ob' u n
  | [], _, _, ⟨_, h⟩ => by simp at h
  | (k, o) :: r, ob, ob', h => by
    rw [updL_cons, updL_cons]
    by_cases hr : unm r n
    · exact updL_mem r _ _ hr
    · rw [updL_not r _ hr, updL_not r _ hr]
      obtain ⟨p, hp⟩ := h
      rcases List.mem_cons.1 hp with h1 | h1
      · cases h1; simp [upd_same]
      · exact (hr ⟨p, h1⟩).elim
theorem put_env_ne {st : St} {o : Oper} {v : AV} {u : Ups} {t : Nat} (h : o.dst ≠ some t) : (st.put o v u).env t = st.env t := by
  unfold St.put
  cases hd : o.dst with
  | none => rfl
  | some d => exact upd_other _ _ (by rintro rfl; exact h hd)
theorem put_env_eq {st : St} {o : Oper} {v : AV} {u : Ups} {t : Nat} (h : o.dst = some t) : (st.put o v u).env t = v := by
  unfold St.put
  rw [h]; exact upd_same _ _ _
theorem put_comm {st : St} {o p : Oper} {v z : AV} {u y : Ups} (h : ∀ d, o.dst = some d → p.dst ≠ some d) (hu : ∀ n, unm u n → ¬ unm y n) : (st.put o v u).put p z y = (st.put p z y).put o v u := by
  have henv : ((st.put o v u).put p z y).env = ((st.put p z y).put o v u).env := by
    funext t
    by_cases h1 : o.dst = some t
    · rw [put_env_ne (h t h1), put_env_eq h1, put_env_eq h1]
    · rw [put_env_ne h1]
      by_cases h2 : p.dst = some t
      · rw [put_env_eq h2, put_env_eq h2]
      · rw [put_env_ne h2, put_env_ne h2, put_env_ne h1]
  have hob : ((st.put o v u).put p z y).ob = ((st.put p z y).put o v u).ob := by
    funext n
    show updL (updL st.ob u) y n = updL (updL st.ob y) u n
    by_cases h1 : unm u n
    · rw [updL_not _ _ (hu n h1)]; exact updL_mem _ _ _ h1
    · rw [updL_not u _ h1]
      by_cases h2 : unm y n
      · exact updL_mem _ _ _ h2
      · rw [updL_not _ _ h2, updL_not _ _ h2, updL_not _ _ h1]
  cases h1 : (st.put o v u).put p z y
  cases h2 : (st.put p z y).put o v u
  rw [h1, h2] at henv hob
  simp only at henv hob
  rw [henv, hob]
theorem stF_append : ∀ (x y : Lz) (L : Nat → Bool) (i : Nat) (st : St), stF (x ++ y) L i st = stF y L (i + x.length) (stF x L i st)
  | [], _, _, _, _ => rfl
  | (o, e) :: x, y, L, i, st => by
    show stF (x ++ y) L (i + 1) _ = _
    rw [stF_append x y]
    simp only [List.length_cons]
    rw [show i + 1 + x.length = i + (x.length + 1) by omega]
    rfl
/-- A state's slot and object behind operations that do not write them. -/
theorem stF_env {t : Nat} : ∀ (x : Lz) (L : Nat → Bool) (i : Nat) (st : St), (∀ (j : Nat) oe, x[j]? = some oe → L (i + j) = true → oe.1.dst ≠ some t) → (stF x L i st).env t = st.env t
  | [], _, _, _, _ => rfl
  | (o, e) :: x, L, i, st, h => by
    unfold stF
    rw [stF_env x L (i + 1) _ fun j oe hj hl => h (j + 1) oe (by simpa using hj) (by rw [← hl]; congr 1; omega)]
    split
    · rename_i hl
      exact put_env_ne (h 0 (o, e) rfl hl)
    · rfl
theorem stF_ob {n : Nat} : ∀ (x : Lz) (L : Nat → Bool) (i : Nat) (st : St), (∀ (j : Nat) oe, x[j]? = some oe → L (i + j) = true → ¬ unm oe.2.u n) → (stF x L i st).ob n = st.ob n
  | [], _, _, _, _ => rfl
  | (o, e) :: x, L, i, st, h => by
    unfold stF
    rw [stF_ob x L (i + 1) _ fun j oe hj hl => h (j + 1) oe (by simpa using hj) (by rw [← hl]; congr 1; omega)]
    split
    · rename_i hl
      exact updL_not _ _ (h 0 (o, e) rfl hl)
    · rfl
theorem stF_noflat {n : Nat} : ∀ (x : Lz) (L : Nat → Bool) (i : Nat) (st : St), (∀ sz ys, st.ob n ≠ some (.flat sz ys)) → (∀ oe ∈ x, ∀ o, (n, o) ∈ oe.2.u → ∀ sz ys, o ≠ .flat sz ys) → ∀ sz ys, (stF x L i st).ob n ≠ some (.flat sz ys)
  | [], _, _, _, h, _ => h
  | (o, e) :: x, L, i, st, h, hx => by
    unfold stF
    refine stF_noflat x L (i + 1) _ ?_ fun oe hm => hx oe (by simp [hm])
    split
    · have hx := hx (o, e) (by simp)
      simp only at hx
      show ∀ sz ys, updL st.ob e.u n ≠ _
      generalize e.u = u at hx
      intro sz ys hf
      have : ∀ (u : Ups) (ob : Nat → Option OB), (∀ o, (n, o) ∈ u → ∀ sz ys, o ≠ OB.flat sz ys) → (∀ sz ys, ob n ≠ some (.flat sz ys)) → ∀ sz ys, updL ob u n ≠ some (.flat sz ys) := by
        intro u
        induction u with
        | nil => intro ob _ h; exact h
        | cons p r ih =>
          obtain ⟨k, p⟩ := p
          intro ob h1 h2
          rw [updL_cons]
          refine ih _ (fun o ho => h1 o (by simp [ho])) ?_
          intro sz ys
          by_cases hk : n = k
          · subst hk; rw [upd_same]; intro he; cases he; exact h1 _ (by simp) sz ys rfl
          · rw [upd_other _ _ hk]; exact h2 sz ys
      exact this u st.ob hx h sz ys hf
    · exact h
/-- Two sets of operations leave a slot alike, if what the one lacks does not write it. -/
theorem stF_env2 {t : Nat} : ∀ (x : Lz) (L L' : Nat → Bool) (i : Nat) (st st' : St), st.env t = st'.env t → (∀ (j : Nat) oe, x[j]? = some oe → L (i + j) ≠ L' (i + j) → oe.1.dst ≠ some t) → (stF x L i st).env t = (stF x L' i st').env t
  | [], _, _, _, _, _, h, _ => h
  | (o, e) :: x, L, L', i, st, st', h0, h => by
    unfold stF
    refine stF_env2 x L L' (i + 1) _ _ ?_ fun j oe hj hl => h (j + 1) oe (by simpa using hj) (by rw [show i + (j + 1) = i + 1 + j by omega]; exact hl)
    by_cases hd : o.dst = some t
    · have : L i = L' i := by
        apply Classical.byContradiction
        intro hne; exact h 0 (o, e) rfl hne hd
      rw [this]
      split
      · rw [put_env_eq hd, put_env_eq hd]
      · exact h0
    · split <;> split <;> simp only [put_env_ne hd, h0]
theorem stF_ob2 {n : Nat} : ∀ (x : Lz) (L L' : Nat → Bool) (i : Nat) (st st' : St), st.ob n = st'.ob n → (∀ (j : Nat) oe, x[j]? = some oe → L (i + j) ≠ L' (i + j) → ¬ unm oe.2.u n) → (stF x L i st).ob n = (stF x L' i st').ob n
  | [], _, _, _, _, _, h, _ => h
  | (o, e) :: x, L, L', i, st, st', h0, h => by
    unfold stF
    refine stF_ob2 x L L' (i + 1) _ _ ?_ fun j oe hj hl => h (j + 1) oe (by simpa using hj) (by rw [show i + (j + 1) = i + 1 + j by omega]; exact hl)
    by_cases hd : unm e.u n
    · have : L i = L' i := by
        apply Classical.byContradiction
        intro hne; exact h 0 (o, e) rfl hne hd
      rw [this]
      split
      · exact updL_mem _ _ _ hd
      · exact h0
    · have hput : ∀ st : St, (st.put o e.v e.u).ob n = st.ob n := fun st => updL_not _ _ hd
      split <;> split <;> simp only [hput, h0]
/-- One more operation: it may be put last. -/
theorem stF_late : ∀ (x : Lz) (L : Nat → Bool) (i : Nat) (st : St) (o : Oper) (e : En), (∀ (j : Nat) oe, x[j]? = some oe → L (i + j) = true → (∀ d, o.dst = some d → oe.1.dst ≠ some d) ∧ ∀ n, unm e.u n → ¬ unm oe.2.u n) →
    stF x L i (st.put o e.v e.u) = (stF x L i st).put o e.v e.u
  | [], _, _, _, _, _, _ => rfl
  | (p, f) :: x, L, i, st, o, e, h => by
    unfold stF
    have ih := fun st => stF_late x L (i + 1) st o e fun j oe hj hl => h (j + 1) oe (by simpa using hj) (by rw [← hl]; congr 1; omega)
    split
    · rename_i hl
      obtain ⟨h1, h2⟩ := h 0 (p, f) rfl hl
      rw [put_comm h1 h2]
      exact ih _
    · exact ih _
theorem Run_split {ops : Array Oper} : ∀ (x : Lz) (o : Oper) (e : En) (y : Lz) (st : St) (i : Nat), Run P ops (x ++ (o, e) :: y) st → RunOp P ops (stF x (fun _ => true) i st) o e
  | [], _, _, _, _, _, h => h.1
  | (p, f) :: x, o, e, y, st, i, h => by
    unfold stF
    rw [if_pos rfl]
    exact Run_split x o e y _ (i + 1) h.2
end Go.Proofs.Ytpaccfeiaekacaa.Vs

import Derived.Test.YtpaccfeiaekacaaVsO
namespace Go.Proofs.Ytpaccfeiaekacaa.Vs
set_option linter.unusedVariables false
set_option linter.unusedSimpArgs false
set_option linter.unusedSectionVars false
set_option linter.unnecessarySimpa false
set_option linter.all false
open Go.RowKit
variable {P : Program}
/-- The objects that a call is handed: formal names 0 .. to be read, 8 .. to be written. -/
def fname (nr nw n : Nat) : Prop := n < nr ∨ (8 ≤ n ∧ n < 8 + nw)
/-- A CONTRACT: called with values that read as args, where the objects that are handed in hold ros (only read) and wos (may be written), the call returns a value that reads as r; the objects then hold wos'. Nothing else that was there has turned. -/
def GCall (P : Program) (f : FuncId) (args : List AV) (ros wos : List (List AV)) (r : AV) (wos' : List (List AV)) : Prop :=
  (∃ fn, P.funcs[f]? = some fn ∧ (fn.name == "runtime.NumGoroutine") = false ∧ fn.body.isNone = false) ∧
  ∀ (w : World) (I : Nat → Prop) (β : Beta) (vs : List Value), (∀ b, I b → b < w.heap.size) → Rv2s w I β args vs → ros.length ≤ 8 →
    (∀ n, ¬ fname ros.length wos.length n → β n = none) →
    (∀ i cs, ros[i]? = some cs → ∃ bl, β i = some bl ∧ ¬ I bl.b ∧ bl.b < w.heap.size ∧ Rcs w I β bl.b bl.o cs) →
    (∀ i cs, wos[i]? = some cs → ∃ bl, β (8 + i) = some bl ∧ ¬ I bl.b ∧ bl.b < w.heap.size ∧ OwnW w bl.b bl.o cs.length ∧ Rcs w I β bl.b bl.o cs) →
    (∀ n m bl bl', n ≠ m → β n = some bl → β m = some bl' → bl.b ≠ bl'.b) →
    Calls P f ⟨vs⟩ w fun e w' => ∃ v I', e = .returned v ∧ Evo (fun b => ∃ i bl, i < wos.length ∧ β (8 + i) = some bl ∧ bl.b = b) w w' ∧ (∀ b, I b → I' b) ∧ (∀ b, I' b → I b ∨ (w.heap.size ≤ b ∧ b < w'.heap.size)) ∧
      Rv w' I' (fun _ => none) r v ∧ wos'.length = wos.length ∧ ∀ i cs, wos'[i]? = some cs → ∃ bl, β (8 + i) = some bl ∧ OwnW w' bl.b bl.o cs.length ∧ Rcs w' I' (fun _ => none) bl.b bl.o cs
/-- A contract of a function that is handed no object. -/
def PCall (P : Program) (f : FuncId) (args : List AV) (r : AV) : Prop := GCall P f args [] [] r []
/-- How the caller's value stands to what the callee is said to get. st: the caller; ν: the caller's name of each formal object. -/
def am0 (st : St) (ν : Nat → Option Nat) : AV → AV → Prop
  | .g (.slice none 0 0), .sl _ xs => xs = []
  | .arr n off len, .sl sz xs => ∃ ys, (st.ob n = some (.flat sz ys) ∨ st.ob n = some (.shared sz ys)) ∧ off + len ≤ ys.length ∧ xs = (ys.drop off).take len
  | .ptr n off, .ptr i off' => ν i = some n ∧ off' = off
  | .g v, .g v' => v' = v
  | .s l, .s l' => l' = l
  | .sl sz xs, .sl sz' xs' => sz' = sz ∧ xs' = xs
  | .ip cs, .ip cs' => cs' = cs
  | _, .undef => True
  | _, _ => False
def am0s (st : St) (ν : Nat → Option Nat) : List AV → List AV → Prop
  | [], l => l = []
  | a :: as, a' :: as' => am0 st ν a a' ∧ am0s st ν as as'
  | _ :: _, [] => False
def am1 (st : St) (ν : Nat → Option Nat) : AV → AV → Prop
  | .fn f x y, .fn f' x' y' => f' = f ∧ am0s st ν x x' ∧ am0s st ν y y'
  | a, a' => am0 st ν a a'
def am1s (st : St) (ν : Nat → Option Nat) : List AV → List AV → Prop
  | [], l => l = []
  | a :: as, a' :: as' => am1 st ν a a' ∧ am1s st ν as as'
  | _ :: _, [] => False
def am2 (st : St) (ν : Nat → Option Nat) : AV → AV → Prop
  | .tup _, _ => False
  | .agg cs, .agg cs' => am1s st ν cs cs'
  | a, a' => am1 st ν a a'
def am2s (st : St) (ν : Nat → Option Nat) : List AV → List AV → Prop
  | [], l => l = []
  | a :: as, a' :: as' => am2 st ν a a' ∧ am2s st ν as as'
  | _ :: _, [] => False
/-- All rows that values name, to the bottom. -/
def arrN0 : List AV → List Nat
  | [] => []
  | .arr n _ _ :: r => n :: arrN0 r
  | _ :: r => arrN0 r
def arrN1 : List AV → List Nat
  | [] => []
  | .arr n _ _ :: r => n :: arrN1 r
  | .fn _ x y :: r => arrN0 x ++ arrN0 y ++ arrN1 r
  | _ :: r => arrN1 r
def arrN2 : List AV → List Nat
  | [] => []
  | .arr n _ _ :: r => n :: arrN2 r
  | .fn _ x y :: r => arrN0 x ++ arrN0 y ++ arrN2 r
  | .agg cs :: r => arrN1 cs ++ arrN2 r
  | _ :: r => arrN2 r
/-- Does a result reach no memory? -/
def scal1 : AV → Bool
  | .g _ => true
  | .s _ => true
  | _ => false
def scal2 : AV → Bool
  | .agg cs => cs.all scal1
  | a => scal1 a
def scal : AV → Bool
  | .tup vs => vs.all scal2
  | a => scal2 a
section am
variable {C : Cx} {st : St} {a : Act} {w : World} {I : Nat → Prop} {β βc : Beta} {φ : Nat → List Nat} {ν : Nat → Option Nat}
  (hC : Conc C st a w I β φ) (hν : ∀ i n, ν i = some n → ∀ bl, β n = some bl → βc i = some bl)
include hC hν
/-- (Rows that are named have been frozen.) -/
theorem am0_sound (av av' : AV) (hn : ∀ n off len, av = .arr n off len → ∀ sz ys, st.ob n ≠ some (.flat sz ys)) {x : Value} (h : am0 st ν av av') (hx : Rv0 w I β av x) : Rv0 w I βc av' x := by
  unfold am0 at h
  split at h
  · subst h; cases hx
    show RI w I _ _
    rw [RI]
    exact ⟨none, 0, rfl, by simp, .inl rfl⟩
  · rename_i n off len sz xs
    obtain ⟨ys, hob, hle, rfl⟩ := h
    have hob' : st.ob n = some (.shared sz ys) := hob.resolve_left (hn n off len rfl sz ys)
    obtain ⟨bl, hb, hle2, hp⟩ := hx
    obtain ⟨bl', hb', h1, h2, h3, -, h4⟩ := hC.ob _ _ hob'
    rw [hb] at hb'; cases hb'
    have hlen : ((ys.drop off).take len).length = len := by simp; omega
    show RI w I _ _
    rw [RI, hlen]
    rcases hp with rfl | ⟨h5, a', rfl⟩
    · refine ⟨_, _, rfl, by omega, ?_⟩
      rcases h4 with h4 | ⟨h4, h6⟩
      · left; apply List.length_eq_zero_iff.1; omega
      · refine .inr ⟨bl.b, _, rfl, h4, ?_⟩
        subst h1
        rw [h2]
        exact RIe_take _ _ len (RIe_drop _ _ off h6)
    · have : len = 0 := by omega
      subst this
      exact ⟨_, _, rfl, Nat.le_refl _, .inl (by simp)⟩
  · obtain ⟨h1, rfl⟩ := h
    obtain ⟨bl, hb, rfl⟩ := hx
    exact ⟨bl, hν _ _ h1 bl hb, rfl⟩
  · subst h; exact hx
  · subst h; exact hx
  · obtain ⟨rfl, rfl⟩ := h; exact hx
  · subst h; exact hx
  · trivial
  · exact h.elim
theorem am0s_sound : ∀ (l l' : List AV), (∀ n ∈ arrN0 l, ∀ sz ys, st.ob n ≠ some (.flat sz ys)) → ∀ {vs : List Value}, am0s st ν l l' → Rv0s w I β l vs → Rv0s w I βc l' vs
  | [], l', _, vs, h, hx => by cases h; exact hx
  | c :: cs, [], _, vs, h, hx => h.elim
  | c :: cs, c' :: cs', hn, vs, h, hx => by
    obtain ⟨v, vs', rfl, h1, h2⟩ := hx
    refine ⟨v, vs', rfl, am0_sound hC hν c c' ?_ h.1 h1, am0s_sound cs cs' ?_ h.2 h2⟩
    · rintro n off len rfl; exact hn n (by simp [arrN0])
    · intro n hm; exact hn n (by cases c <;> simp [arrN0, hm])
theorem am1_sound (av av' : AV) (hn : ∀ n ∈ arrN1 [av], ∀ sz ys, st.ob n ≠ some (.flat sz ys)) {x : Value} (h : am1 st ν av av') (hx : Rv1 w I β av x) : Rv1 w I βc av' x := by
  have key : ∀ av av', (∀ n off len, av = .arr n off len → n ∈ arrN1 [av]) → (∀ n ∈ arrN1 [av], ∀ sz ys, st.ob n ≠ some (.flat sz ys)) → am0 st ν av av' → Rv0 w I β av x → Rv0 w I βc av' x :=
    fun av av' h1 h2 h3 h4 => am0_sound hC hν av av' (fun n off len e => h2 n (h1 n off len e)) h3 h4
  have harr : ∀ av n off len, av = AV.arr n off len → n ∈ arrN1 [av] := by rintro _ n off len rfl; simp [arrN1]
  cases av' with
  | undef => trivial
  | fn f' x' y' =>
    cases av with
    | fn f x y =>
      obtain ⟨rfl, h1, h2⟩ := h
      obtain ⟨vs, us, rfl, h3, h4⟩ := hx
      exact ⟨vs, us, rfl, am0s_sound hC hν _ _ (fun n hm => hn n (by simp [arrN1, hm])) h1 h3, am0s_sound hC hν _ _ (fun n hm => hn n (by simp [arrN1, hm])) h2 h4⟩
    | _ => simp [am1, am0] at h
  | g q1 => cases av with
    | fn f x y => simp [am1, am0] at h
    | _ => exact key _ (.g q1) (harr _) hn h hx
  | s q1 => cases av with
    | fn f x y => simp [am1, am0] at h
    | _ => exact key _ (.s q1) (harr _) hn h hx
  | agg q1 => cases av with
    | fn f x y => simp [am1, am0] at h
    | _ => exact key _ (.agg q1) (harr _) hn h hx
  | sl q1 q2 => cases av with
    | fn f x y => simp [am1, am0] at h
    | _ => exact key _ (.sl q1 q2) (harr _) hn h hx
  | ot q1 q2 => cases av with
    | fn f x y => simp [am1, am0] at h
    | _ => exact key _ (.ot q1 q2) (harr _) hn h hx
  | arr q1 q2 q3 => cases av with
    | fn f x y => simp [am1, am0] at h
    | _ => exact key _ (.arr q1 q2 q3) (harr _) hn h hx
  | ptr q1 q2 => cases av with
    | fn f x y => simp [am1, am0] at h
    | _ => exact key _ (.ptr q1 q2) (harr _) hn h hx
  | eptr q1 q2 q3 => cases av with
    | fn f x y => simp [am1, am0] at h
    | _ => exact key _ (.eptr q1 q2 q3) (harr _) hn h hx
  | ip q1 => cases av with
    | fn f x y => simp [am1, am0] at h
    | _ => exact key _ (.ip q1) (harr _) hn h hx
  | tup q1 => cases av with
    | fn f x y => simp [am1, am0] at h
    | _ => exact key _ (.tup q1) (harr _) hn h hx
theorem am1s_sound : ∀ (l l' : List AV), (∀ n ∈ arrN1 l, ∀ sz ys, st.ob n ≠ some (.flat sz ys)) → ∀ {vs : List Value}, am1s st ν l l' → Rv1s w I β l vs → Rv1s w I βc l' vs
  | [], l', _, vs, h, hx => by cases h; exact hx
  | c :: cs, [], _, vs, h, hx => h.elim
  | c :: cs, c' :: cs', hn, vs, h, hx => by
    obtain ⟨v, vs', rfl, h1, h2⟩ := hx
    refine ⟨v, vs', rfl, am1_sound hC hν c c' ?_ h.1 h1, am1s_sound cs cs' ?_ h.2 h2⟩
    · intro n hm; refine hn n ?_; cases c <;> simp [arrN1] at hm ⊢
      · exact .inl hm
      · rcases hm with h | h <;> simp [h]
    · intro n hm; refine hn n ?_; cases c <;> simp [arrN1, hm]
theorem am2_sound (av av' : AV) (hn : ∀ n ∈ arrN2 [av], ∀ sz ys, st.ob n ≠ some (.flat sz ys)) {x : Value} (h : am2 st ν av av') (hx : Rv2 w I β av x) : Rv2 w I βc av' x := by
  by_cases htup : ∃ cs, av = .tup cs
  · obtain ⟨cs, rfl⟩ := htup; simp [am2] at h
  have hsub : ∀ av : AV, (∀ cs, av ≠ .agg cs) → ∀ n ∈ arrN1 [av], n ∈ arrN2 [av] := by
    intro av hne n hm
    cases av <;> first | (simpa [arrN1, arrN2] using hm) | exact (hne _ rfl).elim
  by_cases hag : ∃ cs, av = .agg cs
  · obtain ⟨cs, rfl⟩ := hag
    cases av' with
    | undef => trivial
    | agg cs' =>
      obtain ⟨vs, rfl, h1⟩ := hx
      exact ⟨vs, rfl, am1s_sound hC hν _ _ (fun n hm => hn n (by simp [arrN2, hm])) h h1⟩
    | _ => simp [am2, am1, am0] at h
  · have hne : ∀ cs, av ≠ .agg cs := fun cs e => hag ⟨cs, e⟩
    have hx1 : Rv1 w I β av x := by cases av <;> first | exact hx | exact (hne _ rfl).elim
    have hm1 : am1 st ν av av' := by cases av <;> first | exact (hne _ rfl).elim | exact (htup ⟨_, rfl⟩).elim | (cases av' <;> exact h)
    have := am1_sound hC hν av av' (fun n hm => hn n (hsub av hne n hm)) hm1 hx1
    cases av' with
    | agg cs' => exact this.elim
    | _ => exact this
theorem am2s_sound : ∀ (l l' : List AV), (∀ n ∈ arrN2 l, ∀ sz ys, st.ob n ≠ some (.flat sz ys)) → ∀ {vs : List Value}, am2s st ν l l' → Rv2s w I β l vs → Rv2s w I βc l' vs
  | [], l', _, vs, h, hx => by cases h; exact hx
  | c :: cs, [], _, vs, h, hx => h.elim
  | c :: cs, c' :: cs', hn, vs, h, hx => by
    obtain ⟨v, vs', rfl, h1, h2⟩ := hx
    refine ⟨v, vs', rfl, am2_sound hC hν c c' ?_ h.1 h1, am2s_sound cs cs' ?_ h.2 h2⟩
    · intro n hm; refine hn n ?_; cases c <;> simp [arrN2] at hm ⊢
      · exact .inl hm
      · exact .inl hm
      · rcases hm with h | h <;> simp [h]
    · intro n hm; refine hn n ?_; cases c <;> simp [arrN2, hm]
end am
end Go.Proofs.Ytpaccfeiaekacaa.Vs

import Derived.Test.YtpaccfeiaekacaaVsKW
import Derived.Test.YtpaccfeiaekacaaVsW
namespace Go.Proofs.Ytpaccfeiaekacaa.Vs
set_option linter.unusedVariables false
set_option linter.unusedSimpArgs false
set_option linter.unusedSectionVars false
set_option linter.unnecessarySimpa false
set_option linter.all false
open Go.RowKit
variable {P : Program}
/-! ### Calls that are handed rows to write, and that return rows of their own -/
def OB.xk : OB → Bool
  | .cells _ => true
  | .own .. => true
  | .dead => true
  | _ => false
/-- The objects behind a call: formal names 8 .. for what was handed in, 16 .. for what is new. -/
def postOb (wos fos : List OB) (n : Nat) : Option OB := if n < 16 then (if n < 8 then none else wos[n - 8]?) else fos[n - 16]?
/-- A CONTRACT: called with values that read as args, where the objects that are handed in are wos, the call returns a value that reads as r; the objects then are wos', and fos are objects that nobody else has. Nothing else that was there has turned. -/
def XCall (P : Program) (f : FuncId) (args : List AV) (wos : List OB) (r : AV) (wos' fos : List OB) : Prop :=
  (∃ fn, P.funcs[f]? = some fn ∧ (fn.name == "runtime.NumGoroutine") = false ∧ fn.body.isNone = false) ∧ wos'.length = wos.length ∧ wos.length ≤ 8 ∧ (wos' ++ fos).all OB.xk = true ∧
  ∀ (w : World) (I : Nat → Prop) (β : Beta) (χ : Nat → List Nat) (vs : List Value),
    (∀ b, I b → b < w.heap.size) → Rv2s w I β args vs →
    (∀ n, postOb wos [] n = none → β n = none ∧ χ n = []) →
    (∀ n o, postOb wos [] n = some o → RO w I β n o (χ n)) →
    (∀ n m, n ≠ m → ∀ b, b ∈ χ n → b ∈ χ m → False) →
    (∀ n b, b ∈ χ n → ¬ I b ∧ b < w.heap.size) →
    Calls P f ⟨vs⟩ w fun e w' => ∃ (v : Value) (I' : Nat → Prop) (β' : Beta) (χ' : Nat → List Nat), e = .returned v ∧ Evo (fun b => ∃ n, b ∈ χ n) w w' ∧ (∀ b, I b → I' b) ∧ (∀ b, I' b → I b ∨ (w.heap.size ≤ b ∧ b < w'.heap.size)) ∧
      Rv w' I' β' r v ∧ (∀ n bl, β n = some bl → β' n = some bl) ∧
      (∀ n, postOb wos' fos n = none → β' n = none ∧ χ' n = []) ∧
      (∀ n o, postOb wos' fos n = some o → RO w' I' β' n o (χ' n)) ∧
      (∀ n m, n ≠ m → ∀ b, b ∈ χ' n → b ∈ χ' m → False) ∧
      (∀ n b, b ∈ χ' n → ¬ I' b ∧ b < w'.heap.size ∧ ((∃ m, b ∈ χ m) ∨ w.heap.size ≤ b))
mutual
theorem RW_RI {w : World} {I : Nat → Prop} : ∀ (c : AV) (x : Value) (F : List Nat), (∀ b ∈ F, I b) → RW w c x F → RI w I c x
  | .g v, x, F, _, h => by rw [RW] at h; rw [RI]; exact ⟨h.1, h.2.1⟩
  | .s v, x, F, _, h => by rw [RW] at h; rw [RI]; exact h.1
  | .sl sz xs, x, F, hF, h => by
    rw [RW] at h
    rw [RI]
    obtain ⟨a, cap, h1, h2, ⟨rfl, -⟩ | ⟨b, F', h3, rfl, -, h5⟩⟩ := h
    · exact ⟨a, cap, h1, h2, .inl rfl⟩
    · exact ⟨a, cap, h1, h2, .inr ⟨b, 0, h3, hF b (by simp), RWe_RIe b sz 0 xs F' (fun c hc => hF c (by simp [hc])) h5⟩⟩
  | .agg .., _, _, _, h | .ot .., _, _, _, h | .arr .., _, _, _, h | .ptr .., _, _, _, h | .eptr .., _, _, _, h | .ip .., _, _, _, h | .fn .., _, _, _, h | .tup .., _, _, _, h | .undef, _, _, _, h => by simp [RW] at h
theorem RWe_RIe {w : World} {I : Nat → Prop} (b sz : Nat) : ∀ (o : Nat) (xs : List (List AV)) (F : List Nat), (∀ b ∈ F, I b) → RWe w b sz o xs F → RIe w I b sz o xs
  | o, [], F, _, h => by simp [RIe]
  | o, x :: xs, F, hF, h => by
    rw [RWe] at h
    rw [RIe]
    obtain ⟨F1, F2, rfl, h1, h2, h3⟩ := h
    exact ⟨h1, RWc_RIc b o x F1 (fun c hc => hF c (by simp [hc])) h2, RWe_RIe b sz (o + sz) xs F2 (fun c hc => hF c (by simp [hc])) h3⟩
theorem RWc_RIc {w : World} {I : Nat → Prop} (b : Nat) : ∀ (o : Nat) (cs : List AV) (F : List Nat), (∀ b ∈ F, I b) → RWc w b o cs F → RIc w I b o cs
  | o, [], F, _, h => by simp [RIc]
  | o, c :: cs, F, hF, h => by
    rw [RWc] at h
    rw [RIc]
    obtain ⟨F1, F2, rfl, ⟨v, hv, h2⟩, h3⟩ := h
    exact ⟨⟨v, hv, RW_RI c v F1 (fun c hc => hF c (by simp [hc])) h2⟩, RWc_RIc b (o + 1) cs F2 (fun c hc => hF c (by simp [hc])) h3⟩
end
theorem RWs_get {w : World} : ∀ (ps : List (AV × Value)) (F : List Nat), RWs w ps F → ∀ p ∈ ps, ∃ F', (∀ b ∈ F', b ∈ F) ∧ RW w p.1 p.2 F'
  | [], _, _, p, hp => by simp at hp
  | q :: ps, F, ⟨F1, F2, hF, h1, h2⟩, p, hp => by
    subst hF
    rcases List.mem_cons.1 hp with rfl | hp
    · exact ⟨F1, fun b hb => by simp [hb], h1⟩
    · obtain ⟨F', h3, h4⟩ := RWs_get ps F2 h2 p hp
      exact ⟨F', fun b hb => by simp [h3 b hb], h4⟩
def nuX (hs : List Nat) (i : Nat) : Option Nat := if i < 8 then none else hs[i - 8]?
/-- A row that may be read: shared, or (q) of the frame's own and not handed on. -/
def vwO (q : Bool) (hs : List Nat) (st : St) (n sz : Nat) (ys : List (List AV)) : Prop :=
  st.ob n = some (.shared sz ys) ∨ (q = true ∧ hs.contains n = false ∧ (st.ob n = some (.flat sz ys) ∨ st.ob n = some (.own sz ys) ∨ (st.ob n = some (.win sz ys) ∧ scR ys = true)))
def ax0 (q : Bool) (st : St) (hs Z : List Nat) : AV → AV → Prop
  | .arr n off len, .arr i off' len' => nuX hs i = some n ∧ off' = off ∧ len' = len
  | .eptr n i f, .eptr j i' f' => nuX hs j = some n ∧ i' = i ∧ f' = f
  | .ptr n off, .ptr i off' => nuX hs i = some n ∧ off' = off
  | .g v, .arr i off len => v = .slice none 0 0 ∧ off = 0 ∧ len = 0 ∧ ∃ n, nuX hs i = some n ∧ n ∈ Z
  | .arr n off len, .sl sz xs => ∃ ys, vwO q hs st n sz ys ∧ off + len ≤ ys.length ∧ xs = (ys.drop off).take len
  | .g v, .sl sz xs => (v = .slice none 0 0 ∧ xs = []) ∨ (q = true ∧ ∃ n ps, hs.contains n = false ∧ st.ob n = some (.park ps) ∧ (.sl sz xs, v) ∈ ps)
  | .g v, .g v' => v' = v
  | .s l, .s l' => l' = l
  | .sl sz xs, .sl sz' xs' => sz' = sz ∧ xs' = xs
  | .ip cs, .ip cs' => cs' = cs
  | _, .undef => True
  | _, _ => False
def ax0s (q : Bool) (st : St) (hs Z : List Nat) : List AV → List AV → Prop
  | [], l => l = []
  | a :: as, a' :: as' => ax0 q st hs Z a a' ∧ ax0s q st hs Z as as'
  | _ :: _, [] => False
def ax1 (q : Bool) (st : St) (hs Z : List Nat) : AV → AV → Prop
  | .fn f x y, .fn f' x' y' => f' = f ∧ ax0s q st hs Z x x' ∧ ax0s q st hs Z y y'
  | a, a' => ax0 q st hs Z a a'
def ax1s (q : Bool) (st : St) (hs Z : List Nat) : List AV → List AV → Prop
  | [], l => l = []
  | a :: as, a' :: as' => ax1 q st hs Z a a' ∧ ax1s q st hs Z as as'
  | _ :: _, [] => False
def ax2 (q : Bool) (st : St) (hs Z : List Nat) : AV → AV → Prop
  | .tup _, _ => False
  | .agg cs, .agg cs' => ax1s q st hs Z cs cs'
  | a, a' => ax1 q st hs Z a a'
def ax2s (q : Bool) (st : St) (hs Z : List Nat) : List AV → List AV → Prop
  | [], l => l = []
  | a :: as, a' :: as' => ax2 q st hs Z a a' ∧ ax2s q st hs Z as as'
  | _ :: _, [] => False
section ax
variable {st : St} {w : World} {I I2 : Nat → Prop} {β βc : Beta} {φ : Nat → List Nat} {q : Bool} {hs Z : List Nat}
  (hO : ∀ n o, st.ob n = some o → RO w I β n o (φ n)) (hI2 : ∀ b, I b → I2 b)
  (hV : q = true → ∀ n, hs.contains n = false → ∀ b ∈ φ n, I2 b)
  (hν : ∀ i n, nuX hs i = some n → ∀ bl, β n = some bl → βc i = some bl)
  (hZ : ∀ n ∈ Z, ∃ bl, β n = some bl ∧ bl.cap = 0)
include hO hI2 hV hν hZ
theorem ax0_sound (av av' : AV) {x : Value} (h : ax0 q st hs Z av av') (hx : Rv0 w I β av x) : Rv0 w I2 βc av' x := by
  unfold ax0 at h
  split at h
  · obtain ⟨h1, rfl, rfl⟩ := h
    obtain ⟨bl, hb, hr⟩ := hx
    exact ⟨bl, hν _ _ h1 bl hb, hr⟩
  · obtain ⟨h1, rfl, rfl⟩ := h
    obtain ⟨bl, hb, hr⟩ := hx
    exact ⟨bl, hν _ _ h1 bl hb, hr⟩
  · obtain ⟨h1, rfl⟩ := h
    obtain ⟨bl, hb, hr⟩ := hx
    exact ⟨bl, hν _ _ h1 bl hb, hr⟩
  · obtain ⟨rfl, rfl, rfl, n, h1, h2⟩ := h
    obtain ⟨bl, h3, h4⟩ := hZ n h2
    cases hx
    exact ⟨bl, hν _ _ h1 bl h3, by omega, .inr ⟨by omega, none, rfl⟩⟩
  · rename_i n off len sz xs
    obtain ⟨ys, hob, hle, rfl⟩ := h
    obtain ⟨bl, hb, hle2, hp⟩ := hx
    have hlen : ((ys.drop off).take len).length = len := by simp; omega
    have key : bl.sz = sz ∧ bl.o = 0 ∧ ys.length ≤ bl.cap ∧ (bl.cap = 0 ∨ (I2 bl.b ∧ RIe w I2 bl.b sz 0 ys)) := by
      rcases hob with hob | ⟨hq, hh, hob | hob | ⟨hob, hs⟩⟩
      · obtain ⟨bl', hb', h1, h2, h3, -, h4⟩ := hO _ _ hob
        rw [hb] at hb'; cases hb'
        exact ⟨h1, h2, h3, h4.imp id fun h => ⟨hI2 _ h.1, RIe_own hI2 (fun _ _ => rfl) _ rfl _ _ _ h.2⟩⟩
      · obtain ⟨bl', hb', h1, h2, h3, h4⟩ := hO _ _ hob
        rw [hb] at hb'; cases hb'
        exact ⟨h1, h2, h3, h4.imp (·.1) fun h => ⟨hV hq n hh _ (by rw [h.1]; simp), RIe_own hI2 (fun _ _ => rfl) _ rfl _ _ _ h.2.2⟩⟩
      · obtain ⟨bl', hb', h1, h2, h3, -, h4⟩ := hO _ _ hob
        rw [hb] at hb'; cases hb'
        refine ⟨h1, h2, h3, ?_⟩
        rcases h4 with ⟨h4, -⟩ | ⟨F', h4, h5, h6⟩
        · exact .inl h4
        · have hF := hV hq n hh
          rw [h4] at hF
          exact .inr ⟨hF _ (by simp), RWe_RIe _ _ _ _ _ (fun c hc => hF c (by simp [hc])) h6⟩
      · obtain ⟨bl', hb', h1, h2, h3, h4⟩ := hO _ _ hob
        rw [hb] at hb'; cases hb'
        exact ⟨h1, h2, h3, h4.imp (·.1) fun h => ⟨hV hq n hh _ (by rw [h.1]; simp), RWe_RIe _ _ _ _ _ (by simp) (RJe_RWe _ _ hs h.2.2)⟩⟩
    obtain ⟨h1, h2, h3, h4⟩ := key
    show RI w I2 _ _
    rw [RI, hlen]
    rcases hp with rfl | ⟨h5, a', rfl⟩
    · refine ⟨_, _, rfl, by omega, ?_⟩
      rcases h4 with h4 | ⟨h4, h6⟩
      · left; apply List.length_eq_zero_iff.1; omega
      · refine .inr ⟨bl.b, _, rfl, h4, ?_⟩
        subst h1
        rw [h2]
        exact RIe_take _ _ len (RIe_drop _ _ off h6)
    · have : len = 0 := by omega
      subst this
      exact ⟨_, _, rfl, Nat.le_refl _, .inl (by simp)⟩
  · rename_i v sz xs
    cases hx
    rcases h with ⟨rfl, rfl⟩ | ⟨hq, n, ps, hh, hob, hm⟩
    · show RI w I2 _ _
      rw [RI]
      exact ⟨none, 0, rfl, by simp, .inl rfl⟩
    · obtain ⟨-, hp⟩ := hO _ _ hob
      obtain ⟨F', h1, h2⟩ := RWs_get _ _ hp _ hm
      exact RW_RI _ _ F' (fun b hb => hV hq n hh b (h1 b hb)) h2
  · subst h; exact hx
  · subst h; exact hx
  · obtain ⟨rfl, rfl⟩ := h; exact RI_mono hI2 (fun _ _ => rfl) _ _ hx
  · subst h
    obtain ⟨b, o, h1, h2, h3⟩ := hx
    exact ⟨b, o, h1, hI2 b h2, RIc_mono hI2 (fun _ _ => rfl) b h2 o _ h3⟩
  · trivial
  · exact h.elim
theorem ax0s_sound : ∀ (l l' : List AV), ∀ {vs : List Value}, ax0s q st hs Z l l' → Rv0s w I β l vs → Rv0s w I2 βc l' vs
  | [], l', vs, h, hx => by cases h; exact hx
  | c :: cs, [], vs, h, hx => h.elim
  | c :: cs, c' :: cs', vs, h, hx => by
    obtain ⟨v, vs', rfl, h1, h2⟩ := hx
    exact ⟨v, vs', rfl, ax0_sound hO hI2 hV hν hZ c c' h.1 h1, ax0s_sound cs cs' h.2 h2⟩
theorem ax1_sound (av av' : AV) {x : Value} (h : ax1 q st hs Z av av') (hx : Rv1 w I β av x) : Rv1 w I2 βc av' x := by
  by_cases hu : av' = .undef
  · subst hu; trivial
  by_cases hf : ∃ f x y, av = .fn f x y
  · obtain ⟨f, p, r, rfl⟩ := hf
    cases av' with
    | fn f' x' y' =>
      obtain ⟨rfl, h1, h2⟩ := h
      obtain ⟨vs, us, rfl, h3, h4⟩ := hx
      exact ⟨vs, us, rfl, ax0s_sound hO hI2 hV hν hZ _ _ h1 h3, ax0s_sound hO hI2 hV hν hZ _ _ h2 h4⟩
    | undef => trivial
    | _ => simp [ax1, ax0] at h
  · have hx0 : Rv0 w I β av x := by cases av <;> first | exact hx | exact (hf ⟨_, _, _, rfl⟩).elim
    have hm : ax0 q st hs Z av av' := by cases av <;> first | exact (hf ⟨_, _, _, rfl⟩).elim | (cases av' <;> exact h)
    have := ax0_sound hO hI2 hV hν hZ av av' hm hx0
    cases av' <;> first | exact this | exact this.elim
theorem ax1s_sound : ∀ (l l' : List AV), ∀ {vs : List Value}, ax1s q st hs Z l l' → Rv1s w I β l vs → Rv1s w I2 βc l' vs
  | [], l', vs, h, hx => by cases h; exact hx
  | c :: cs, [], vs, h, hx => h.elim
  | c :: cs, c' :: cs', vs, h, hx => by
    obtain ⟨v, vs', rfl, h1, h2⟩ := hx
    exact ⟨v, vs', rfl, ax1_sound hO hI2 hV hν hZ c c' h.1 h1, ax1s_sound cs cs' h.2 h2⟩
theorem ax1s_cells {b : Nat} : ∀ (l l' : List AV) (o : Nat), ax1s q st hs Z l l' → Rcs w I β b o l → Rcs w I2 βc b o l'
  | [], l', o, h, hx => by cases h; trivial
  | c :: cs, [], o, h, hx => h.elim
  | c :: cs, c' :: cs', o, h, hx => by
    obtain ⟨⟨v, hv, h1⟩, h2⟩ := hx
    exact ⟨⟨v, hv, ax1_sound hO hI2 hV hν hZ c c' h.1 h1⟩, ax1s_cells cs cs' (o + 1) h.2 h2⟩
theorem ax2_sound (av av' : AV) {x : Value} (h : ax2 q st hs Z av av') (hx : Rv2 w I β av x) : Rv2 w I2 βc av' x := by
  by_cases hu : av' = .undef
  · subst hu; trivial
  by_cases htup : ∃ cs, av = .tup cs
  · obtain ⟨cs, rfl⟩ := htup; simp [ax2] at h
  by_cases hag : ∃ cs, av = .agg cs
  · obtain ⟨cs, rfl⟩ := hag
    cases av' with
    | undef => trivial
    | agg cs' =>
      obtain ⟨vs, rfl, h1⟩ := hx
      exact ⟨vs, rfl, ax1s_sound hO hI2 hV hν hZ _ _ h h1⟩
    | _ => simp [ax2, ax1, ax0] at h
  · have hne : ∀ cs, av ≠ .agg cs := fun cs e => hag ⟨cs, e⟩
    have hx1 : Rv1 w I β av x := by cases av <;> first | exact hx | exact (hne _ rfl).elim
    have hm1 : ax1 q st hs Z av av' := by cases av <;> first | exact (hne _ rfl).elim | exact (htup ⟨_, rfl⟩).elim | (cases av' <;> exact h)
    have := ax1_sound hO hI2 hV hν hZ av av' hm1 hx1
    cases av' with
    | agg cs' => exact this.elim
    | _ => exact this
theorem ax2s_sound : ∀ (l l' : List AV), ∀ {vs : List Value}, ax2s q st hs Z l l' → Rv2s w I β l vs → Rv2s w I2 βc l' vs
  | [], l', vs, h, hx => by cases h; exact hx
  | c :: cs, [], vs, h, hx => h.elim
  | c :: cs, c' :: cs', vs, h, hx => by
    obtain ⟨v, vs', rfl, h1, h2⟩ := hx
    exact ⟨v, vs', rfl, ax2_sound hO hI2 hV hν hZ c c' h.1 h1, ax2s_sound cs cs' h.2 h2⟩
end ax
theorem ax1s_len {q : Bool} {st : St} {hs Z : List Nat} : ∀ (l l' : List AV), ax1s q st hs Z l l' → l'.length = l.length
  | [], l', h => by cases h; rfl
  | _ :: _, [], h => h.elim
  | _ :: cs, _ :: cs', h => by simp [ax1s_len cs cs' h.2]
theorem ax2s_noTup {q : Bool} {st : St} {hs Z : List Nat} : ∀ (l l' : List AV), ax2s q st hs Z l l' → ∀ x ∈ l, ∀ vs, x ≠ .tup vs
  | [], _, _, x, hx, _ => by simp at hx
  | _ :: _, [], h, _, _, _ => h.elim
  | c :: l, c' :: l', h, x, hx, vs => by
    rcases List.mem_cons.1 hx with rfl | hx
    · rintro rfl
      have := h.1
      simp [ax2] at this
    · exact ax2s_noTup l l' h.2 x hx vs
/-- An object that is handed in stands for the callee's. -/
def axO (q : Bool) (st : St) (hs Z : List Nat) : OB → OB → Prop
  | .cells cs, .cells cs' => ax1s q st hs Z cs cs'
  | .own sz xs, .own sz' xs' => sz' = sz ∧ xs' = xs
  | .win sz xs, .own sz' xs' => sz' = sz ∧ xs' = xs ∧ scR xs = true
  | .flat sz xs, .own sz' xs' => sz' = sz ∧ xs' = xs ∧ scR xs = true
  | _, _ => False
def axOs (q : Bool) (st : St) (hs Z : List Nat) : List Nat → List OB → Prop
  | [], l => l = []
  | n :: ns, o' :: os => (∃ o, st.ob n = some o ∧ axO q st hs Z o o') ∧ axOs q st hs Z ns os
  | _ :: _, [] => False
theorem axOs_get {q : Bool} {st : St} {hs Z : List Nat} : ∀ (ns : List Nat) (os : List OB), axOs q st hs Z ns os → ns.length = os.length ∧ ∀ (i : Nat) o', os[i]? = some o' → ∃ n o, ns[i]? = some n ∧ st.ob n = some o ∧ axO q st hs Z o o'
  | [], _, h => by cases h; simp
  | _ :: _, [], h => h.elim
  | n :: ns, o' :: os, h => by
    obtain ⟨h1, h2⟩ := axOs_get ns os h.2
    refine ⟨by simp [h1], fun i p hp => ?_⟩
    cases i with
    | zero => simp at hp; subst hp; obtain ⟨o, h3, h4⟩ := h.1; exact ⟨n, o, rfl, h3, h4⟩
    | succ i => simpa using h2 i p (by simpa using hp)
end Go.Proofs.Ytpaccfeiaekacaa.Vs

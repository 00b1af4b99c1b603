import Derived.Test.YtpaccfeiaekacaaVsT
namespace Go.Proofs.Ytpaccfeiaekacaa.Vs
set_option linter.unusedVariables false
set_option linter.unusedSimpArgs false
set_option linter.unusedSectionVars false
set_option linter.unnecessarySimpa false
set_option linter.all false
open Go.RowKit
variable {P : Program}
def names0 : AV → List Nat
  | .arr n _ _ => [n]
  | .ptr n _ => [n]
  | .eptr n _ _ => [n]
  | _ => []
def names1 : AV → List Nat
  | .fn _ x y => x.flatMap names0 ++ y.flatMap names0
  | a => names0 a
def names2 : AV → List Nat
  | .agg cs => cs.flatMap names1
  | a => names1 a
/-- The objects that an operation may look at. -/
def rdN (st : St) (o : Oper) : List Nat :=
  let ns := o.op.operands.toList.flatMap fun x => names2 (ev st x)
  nmOf o :: (ns ++ ns.flatMap fun n => match st.ob n with
    | some (.cells cs) => cs.flatMap names1
    | some (.rocells cs) => cs.flatMap names1
    | _ => [])
abbrev Lg := List Nat × List Nat
/-- May two operations of a region be exchanged, by the objects that they look at and turn? -/
def lgApart (x y : Lg) : Bool := x.2.all (fun n => !y.1.contains n && !y.2.contains n) && y.2.all (fun n => !x.1.contains n)
def lgOk (ops : Array Oper) (ls : List Lg) : Bool :=
  let b := Region.before ops
  (List.range ls.length).all fun j => (List.range j).all fun i => (b.getD j 0).testBit i || lgApart (ls.getD i ([], [])) (ls.getD j ([], []))
/-- The operations of a region whose order is open, in the order of the text; what they look at and turn is noted. -/
def aregD (P : Program) (ops : Array Oper) : List Oper → St → List Lg → (St → List Lg → Prop) → Prop
  | [], st, ls, K => K st ls
  | o :: rest, st, ls, K => match o.guard with
    | none => aK P st o fun v u => aregD P ops rest (st.put o v u) (ls ++ [(rdN st o, u.map (·.1))]) K
    | some (j, want) => match (ops[j]?).bind (·.dst) with
      | some d => match st.env d with
        | .g (.bool b) => (b = want → aK P { st with env := upd st.env d (.g (.bool want)) } o fun v u => aregD P ops rest (({ st with env := upd st.env d (.g (.bool want)) } : St).put o v u) (ls ++ [(rdN st o, u.map (·.1))]) K) ∧
            (b = (!want) → aregD P ops rest (({ st with env := upd st.env d (.g (.bool (!want))) } : St).put o (.g undef) []) (ls ++ [([], [])]) K)
        | .g (.tuple vs) => vs.size = 0 ∧ aregD P ops rest (st.put o (.g undef) []) (ls ++ [([], [])]) K
        | _ => False
      | none => False
inductive AExit where
  | normal
  | exit (id : Nat)
  | ret
def lk {α : Type} : List (Nat × α) → Nat → Option α
  | [], _ => none
  | (k, v) :: r, n => bif n == k then some v else lk r n
/-- A state that is written out. -/
def mkSt (e : List (Nat × AV)) (os : List (Nat × OB)) : St := { env := fun n => (lk e n).getD .undef, ob := lk os }
/-- The old name of a new one. -/
abbrev Ren := List (Nat × Nat)
def renV (ρ : Ren) : AV → AV
  | .arr n off len => match lk ρ n with
    | some m => .arr m off len
    | none => .ot 0 []
  | .ptr n off => match lk ρ n with
    | some m => .ptr m off
    | none => .ot 0 []
  | .eptr n i f => match lk ρ n with
    | some m => .eptr m i f
    | none => .ot 0 []
  | a => a
/-- What is known of a value may be forgotten; an empty or a frozen row may be seen as one that is only read. -/
def le0 (st : St) (ρ : Ren) : AV → AV → Prop
  | _, .undef => True
  | .g (.slice none 0 0), .sl _ xs => xs = []
  | .arr n off len, .sl sz xs => ∃ ys, st.ob n = some (.shared sz ys) ∧ off + len ≤ ys.length ∧ xs = (ys.drop off).take len
  | a, a' => a = renV ρ a'
def le0s (st : St) (ρ : Ren) : List AV → List AV → Prop
  | [], l => l = []
  | a :: as, a' :: as' => le0 st ρ a a' ∧ le0s st ρ as as'
  | _ :: _, [] => False
def le1 (st : St) (ρ : Ren) : AV → AV → Prop
  | .fn f x y, .fn f' x' y' => f' = f ∧ le0s st ρ x x' ∧ le0s st ρ y y'
  | a, a' => le0 st ρ a a'
def le1s (st : St) (ρ : Ren) : List AV → List AV → Prop
  | [], l => l = []
  | a :: as, a' :: as' => le1 st ρ a a' ∧ le1s st ρ as as'
  | _ :: _, [] => False
def le2 (st : St) (ρ : Ren) : AV → AV → Prop
  | .agg cs, .agg cs' => le1s st ρ cs cs'
  | .tup _, a' => a' = .undef
  | a, a' => le1 st ρ a a'
/-- An object, likewise. -/
def leO (st : St) (ρ : Ren) : OB → OB → Prop
  | .cells cs, .cells cs' => le1s st ρ cs cs'
  | .rocells cs, .rocells cs' => le1s st ρ cs cs'
  | .flat sz xs, .flat sz' xs' => sz' = sz ∧ xs' = xs
  | .shared sz xs, .shared sz' xs' => sz' = sz ∧ xs' = xs
  | .flat sz xs, .win sz' xs' => sz' = sz ∧ xs' = xs
  | .flat sz xs, .own sz' xs' => sz' = sz ∧ xs' = xs ∧ scR xs = true
  | .win sz xs, .win sz' xs' => sz' = sz ∧ xs' = xs ∧ scR xs = true
  | .win sz xs, .own sz' xs' => sz' = sz ∧ xs' = xs ∧ scR xs = true
  | .own sz xs, .win sz' xs' => sz' = sz ∧ xs' = xs ∧ scR xs = true
  | .own sz xs, .own sz' xs' => sz' = sz ∧ xs' = xs
  | .park ps, .park ps' => ps' = ps
  | _, _ => False
def leEnv (st : St) (ρ : Ren) : List (Nat × AV) → Prop
  | [] => True
  | (t, v) :: r => le2 st ρ (st.env t) v ∧ leEnv st ρ r
def leObs (st : St) (ρ : Ren) : List (Nat × OB) → Prop
  | [] => True
  | (n, o) :: r => (match lk ρ n with
    | some m => match st.ob m with
      | some p => leO st ρ p o
      | none => False
    | none => False) ∧ leObs st ρ r
/-- A state that is known less of. -/
def LeSt (fs : List Nat) (st : St) (ρ : Ren) (e : List (Nat × AV)) (os : List (Nat × OB)) : Prop :=
  leEnv st ρ e ∧ leObs st ρ os ∧ (ρ.map (·.1)).Nodup ∧ (ρ.map (·.2)).Nodup ∧ ρ.map (·.1) = os.map (·.1) ∧ (os.map (·.1)).Nodup ∧ ∀ n ∈ fs, lk ρ n = some n
section
variable {C : Cx} {st : St} {a : Act} {w : World} {I : Nat → Prop} {β βc : Beta} {φ : Nat → List Nat} {ρ : Ren}
theorem lk_mem {α : Type} : ∀ {l : List (Nat × α)} {n : Nat} {v : α}, lk l n = some v → (n, v) ∈ l
  | (k, u) :: r, n, v, h => by
    unfold lk at h
    cases hk : n == k with
    | true => rw [hk] at h; simp at h hk; subst h; subst hk; simp
    | false => rw [hk] at h; simp at h; exact List.mem_cons_of_mem _ (lk_mem h)
theorem lk_none {α : Type} : ∀ {l : List (Nat × α)} {n : Nat}, lk l n = none → n ∉ l.map (·.1)
  | [], _, _ => by simp
  | (k, u) :: r, n, h => by
    unfold lk at h
    cases hk : n == k with
    | true => rw [hk] at h; simp at h
    | false => rw [hk] at h; simp at h hk ⊢; exact ⟨hk, by simpa using lk_none h⟩
section rel
variable (hC : Conc C st a w I β φ) (hβ : ∀ m n, lk ρ m = some n → ∀ bl, β n = some bl → βc m = some bl)
include hC hβ
theorem le0_sound (v v' : AV) {x : Value} (h : le0 st ρ v v') (hx : Rv0 w I β v x) : Rv0 w I βc v' x := by
  unfold le0 at h
  split at h
  · trivial
  · subst h; cases hx
    show RI w I _ _
    rw [RI]
    exact ⟨none, 0, rfl, by simp, .inl rfl⟩
  · rename_i n off len sz xs
    obtain ⟨ys, hob, hle, rfl⟩ := h
    exact am0_sound (βc := βc) (ν := fun _ => none) hC (fun _ _ h => by cases h) (.arr n off len) (.sl sz ((ys.drop off).take len)) (by rintro n' o' l' he; cases he; intro sz' ys' hh; rw [hob] at hh; cases hh) ⟨ys, .inr hob, hle, rfl⟩ hx
  · subst h
    unfold renV at hx
    split at hx
    · split at hx
      · rename_i m hm
        obtain ⟨bl, hb, hr⟩ := hx
        exact ⟨bl, hβ _ _ hm bl hb, hr⟩
      · exact hx.elim
    · split at hx
      · rename_i m hm
        obtain ⟨bl, hb, hr⟩ := hx
        exact ⟨bl, hβ _ _ hm bl hb, hr⟩
      · exact hx.elim
    · split at hx
      · rename_i m hm
        obtain ⟨bl, hb, hr⟩ := hx
        exact ⟨bl, hβ _ _ hm bl hb, hr⟩
      · exact hx.elim
    · rename_i h1 h2 h3
      cases v' <;> first | exact hx | exact (h1 _ _ _ rfl).elim | exact (h2 _ _ rfl).elim | exact (h3 _ _ _ rfl).elim
theorem le0s_sound : ∀ (l l' : List AV) {vs : List Value}, le0s st ρ l l' → Rv0s w I β l vs → Rv0s w I βc l' vs
  | [], l', vs, h, hx => by cases h; exact hx
  | c :: cs, [], vs, h, hx => h.elim
  | c :: cs, c' :: cs', vs, h, hx => by
    obtain ⟨v, vs', rfl, h1, h2⟩ := hx
    exact ⟨v, vs', rfl, le0_sound hC hβ c c' h.1 h1, le0s_sound cs cs' h.2 h2⟩
theorem le1_sound (v v' : AV) {x : Value} (h : le1 st ρ v v') (hx : Rv1 w I β v x) : Rv1 w I βc v' x := by
  by_cases hu : v' = .undef
  · subst hu; trivial
  by_cases hf : ∃ f x y, v = .fn f x y
  · obtain ⟨f, p, q, rfl⟩ := hf
    cases v' with
    | fn f' x' y' =>
      obtain ⟨rfl, h1, h2⟩ := h
      obtain ⟨vs, us, rfl, h3, h4⟩ := hx
      exact ⟨vs, us, rfl, le0s_sound hC hβ _ _ h1 h3, le0s_sound hC hβ _ _ h2 h4⟩
    | undef => trivial
    | arr n o l => simp [le1, le0, renV] at h; split at h <;> cases h
    | ptr n o => simp [le1, le0, renV] at h; split at h <;> cases h
    | eptr n o l => simp [le1, le0, renV] at h; split at h <;> cases h
    | _ => simp [le1, le0, renV] at h
  · have hx0 : Rv0 w I β v x := by cases v <;> first | exact hx | exact (hf ⟨_, _, _, rfl⟩).elim
    have hm : le0 st ρ v v' := by cases v <;> first | exact (hf ⟨_, _, _, rfl⟩).elim | (cases v' <;> exact h)
    have := le0_sound hC hβ v v' hm hx0
    cases v' <;> first | exact this | exact this.elim
theorem le1s_sound : ∀ (l l' : List AV) {vs : List Value}, le1s st ρ l l' → Rv1s w I β l vs → Rv1s w I βc l' vs
  | [], l', vs, h, hx => by cases h; exact hx
  | c :: cs, [], vs, h, hx => h.elim
  | c :: cs, c' :: cs', vs, h, hx => by
    obtain ⟨v, vs', rfl, h1, h2⟩ := hx
    exact ⟨v, vs', rfl, le1_sound hC hβ c c' h.1 h1, le1s_sound cs cs' h.2 h2⟩
theorem le1s_cells : ∀ (l l' : List AV) (b o : Nat), le1s st ρ l l' → Rcs w I β b o l → Rcs w I βc b o l'
  | [], l', b, o, h, hx => by cases h; trivial
  | c :: cs, [], b, o, h, hx => h.elim
  | c :: cs, c' :: cs', b, o, h, hx => by
    obtain ⟨⟨v, hv, h1⟩, h2⟩ := hx
    exact ⟨⟨v, hv, le1_sound hC hβ c c' h.1 h1⟩, le1s_cells cs cs' b (o + 1) h.2 h2⟩
theorem le1s_length : ∀ (l l' : List AV), le1s st ρ l l' → l'.length = l.length
  | [], l', h => by cases h; rfl
  | c :: cs, [], h => h.elim
  | c :: cs, c' :: cs', h => by simp [le1s_length cs cs' h.2]
theorem le2_sound (v v' : AV) {x : Value} (h : le2 st ρ v v') (hx : Rv w I β v x) : Rv w I βc v' x := by
  by_cases hu : v' = .undef
  · subst hu; trivial
  cases v with
  | tup vs => exact (hu h).elim
  | agg cs =>
    cases v' with
    | agg cs' =>
      obtain ⟨vs, rfl, h1⟩ := hx
      exact ⟨vs, rfl, le1s_sound hC hβ _ _ h h1⟩
    | arr n o l => simp [le2, le1, le0, renV] at h; split at h <;> cases h
    | ptr n o => simp [le2, le1, le0, renV] at h; split at h <;> cases h
    | eptr n o l => simp [le2, le1, le0, renV] at h; split at h <;> cases h
    | undef => trivial
    | _ => simp [le2, le1, le0, renV] at h
  | ot _ _ => exact hx.elim
  | undef =>
    cases v' with
    | arr n o l => simp [le2, le1, le0, renV] at h; split at h <;> cases h
    | ptr n o => simp [le2, le1, le0, renV] at h; split at h <;> cases h
    | eptr n o l => simp [le2, le1, le0, renV] at h; split at h <;> cases h
    | undef => trivial
    | _ => simp [le2, le1, le0, renV] at h
  | g q => exact Rv1_Rv _ _ (le1_sound hC hβ (.g q) v' h hx)
  | s q => exact Rv1_Rv _ _ (le1_sound hC hβ (.s q) v' h hx)
  | sl p q => exact Rv1_Rv _ _ (le1_sound hC hβ (.sl p q) v' h hx)
  | arr p q r => exact Rv1_Rv _ _ (le1_sound hC hβ (.arr p q r) v' h hx)
  | ptr p q => exact Rv1_Rv _ _ (le1_sound hC hβ (.ptr p q) v' h hx)
  | eptr p q r => exact Rv1_Rv _ _ (le1_sound hC hβ (.eptr p q r) v' h hx)
  | ip q => exact Rv1_Rv _ _ (le1_sound hC hβ (.ip q) v' h hx)
  | fn p q r => exact Rv1_Rv _ _ (le1_sound hC hβ (.fn p q r) v' h hx)
end rel
theorem lk_of_mem {α : Type} : ∀ {l : List (Nat × α)} {n : Nat} {v : α}, (l.map (·.1)).Nodup → (n, v) ∈ l → lk l n = some v
  | (k, u) :: r, n, v, hnd, h => by
    simp only [List.map_cons, List.nodup_cons] at hnd
    unfold lk
    rcases List.mem_cons.1 h with h' | h'
    · cases h'; simp
    · have hne : (n == k) = false := by
        simp only [beq_eq_false_iff_ne, ne_eq]
        rintro rfl
        exact hnd.1 (List.mem_map.2 ⟨(n, v), h', rfl⟩)
      rw [hne]
      exact lk_of_mem hnd.2 h'
theorem leEnv_get {st : St} {ρ : Ren} : ∀ {e : List (Nat × AV)}, leEnv st ρ e → ∀ n v, lk e n = some v → le2 st ρ (st.env n) v
  | (k, u) :: r, h, n, v, hl => by
    unfold lk at hl
    cases hk : n == k with
    | true => rw [hk] at hl; simp at hl hk; subst hl; subst hk; exact h.1
    | false => rw [hk] at hl; exact leEnv_get h.2 n v hl
theorem leObs_get {st : St} {ρ : Ren} : ∀ {os : List (Nat × OB)}, leObs st ρ os → ∀ n o, lk os n = some o → ∃ m p, lk ρ n = some m ∧ st.ob m = some p ∧ leO st ρ p o
  | (k, u) :: r, h, n, o, hl => by
    unfold lk at hl
    cases hk : n == k with
    | true =>
      rw [hk] at hl; simp at hl hk; subst hl; subst hk
      have h1 := h.1
      split at h1
      · rename_i m hm
        split at h1
        · rename_i p hp
          exact ⟨m, p, hm, hp, h1⟩
        · exact h1.elim
      · exact h1.elim
    | false => rw [hk] at hl; exact leObs_get h.2 n o hl
theorem lk_inj {ρ : Ren} (hnd : (ρ.map (·.2)).Nodup) {n m k : Nat} (h1 : lk ρ n = some k) (h2 : lk ρ m = some k) : n = m := by
  have a1 := lk_mem h1
  have a2 := lk_mem h2
  obtain ⟨i, hi⟩ := List.getElem?_of_mem a1
  obtain ⟨j, hj⟩ := List.getElem?_of_mem a2
  have b1 : (ρ.map (·.2))[i]? = some k := by simp [hi]
  have b2 : (ρ.map (·.2))[j]? = some k := by simp [hj]
  obtain ⟨p1, p2⟩ := List.getElem?_eq_some_iff.1 b1
  obtain ⟨q1, q2⟩ := List.getElem?_eq_some_iff.1 b2
  have hij : i = j := (List.getElem_inj hnd).1 (p2.trans q2.symm)
  subst hij
  rw [hi] at hj
  cases hj; rfl
theorem LeSt.sound (hC : Conc C st a w I β φ) {fs : List Nat} (hfs : ∀ n, C.β0 n ≠ none → n ∈ fs) {e : List (Nat × AV)} {os : List (Nat × OB)} (h : LeSt fs st ρ e os) : CC C (mkSt e os) a w := by
  obtain ⟨h1, h2, h3, h4, h5, h6, h7⟩ := h
  let βc : Beta := fun m => (lk ρ m).bind β
  let φc : Nat → List Nat := fun m => match lk ρ m with | some n => φ n | none => []
  have hβc : ∀ m n, lk ρ m = some n → ∀ bl, β n = some bl → βc m = some bl := by
    intro m n hm bl hb
    show (lk ρ m).bind β = some bl
    rw [hm]; exact hb
  have hnone : ∀ n, lk os n = none → lk ρ n = none := by
    intro n hn
    have := lk_none hn
    rw [← h5] at this
    cases hh : lk ρ n with
    | none => rfl
    | some m => exact (this (List.mem_map.2 ⟨(n, m), lk_mem hh, rfl⟩)).elim
  refine ⟨I, βc, φc, ⟨hC.evo, hC.immLt, hC.imm0, hC.immNew, hC.sz, hC.dfr, ?_, ?_, ?_, ?_, ?_, ?_, ?_, ?_, hC.ylt, ?_, hC.xlt, ?_⟩⟩
  · intro t
    show Rv w I βc ((lk e t).getD .undef) _
    cases hl : lk e t with
    | none => exact trivial
    | some v => exact le2_sound hC hβc _ v (leEnv_get h1 t v hl) (hC.env t)
  · intro n o ho
    obtain ⟨m, p, hm, hp, hle⟩ := leObs_get h2 n o ho
    have hro := hC.ob m p hp
    have hφ : φc n = φ m := by show (match lk ρ n with | some n => φ n | none => []) = _; rw [hm]
    rw [hφ]
    cases p <;> cases o <;> first | exact hle.elim | skip
    · obtain ⟨bl, g1, g2, ⟨arr, ty, g3, g4⟩, g5⟩ := hro
      exact ⟨bl, hβc _ _ hm _ g1, g2, ⟨arr, ty, g3, by rw [le1s_length hC hβc _ _ hle]; exact g4⟩, le1s_cells hC hβc _ _ _ _ hle g5⟩
    · obtain ⟨bl, g1, g2, g3⟩ := hro
      exact ⟨bl, hβc _ _ hm _ g1, g2, le1s_cells hC hβc _ _ _ _ hle g3⟩
    · obtain ⟨rfl, rfl⟩ := hle
      obtain ⟨bl, g1, g2⟩ := hro
      exact ⟨bl, hβc _ _ hm _ g1, g2⟩
    · obtain ⟨rfl, rfl⟩ := hle
      obtain ⟨bl, g1, g2, g3, g4, g5⟩ := hro
      exact ⟨bl, hβc _ _ hm _ g1, g2, g3, g4, g5.imp id fun g => ⟨g.1, g.2.1, RIe_RJe _ _ g.2.2⟩⟩
    · obtain ⟨rfl, rfl, hs⟩ := hle
      obtain ⟨bl, g1, g2, g3, g4, g5⟩ := hro
      exact ⟨bl, hβc _ _ hm _ g1, g2, g3, g4, by rcases g5 with ⟨-, h⟩ | ⟨h, -⟩ <;> rw [h] <;> simp, g5.imp id fun g => ⟨[], g.1, g.2.1, RJe_RWe (I := I) (β := β) _ _ hs (RIe_RJe _ _ g.2.2)⟩⟩
    · obtain ⟨rfl, rfl⟩ := hle
      obtain ⟨bl, g1, g2⟩ := hro
      exact ⟨bl, hβc _ _ hm _ g1, g2⟩
    · obtain ⟨rfl, rfl, hs⟩ := hle
      obtain ⟨bl, g1, g2, g3, g4, g5⟩ := hro
      exact ⟨bl, hβc _ _ hm _ g1, g2, g3, g4, g5.imp id fun g => ⟨g.1, g.2.1, RJe_scal _ _ hs g.2.2⟩⟩
    · obtain ⟨rfl, rfl, hs⟩ := hle
      obtain ⟨bl, g1, g2, g3, g4, g5⟩ := hro
      exact ⟨bl, hβc _ _ hm _ g1, g2, g3, g4, by rcases g5 with ⟨-, h⟩ | ⟨h, -⟩ <;> rw [h] <;> simp, g5.imp id fun g => ⟨[], g.1, g.2.1, RJe_RWe (I := I) (β := β) _ _ hs g.2.2⟩⟩
    · obtain ⟨rfl, rfl, hs⟩ := hle
      obtain ⟨bl, g1, g2, g3, g4, g5, g6⟩ := hro
      refine ⟨bl, hβc _ _ hm _ g1, g2, g3, g4, ?_⟩
      rcases g6 with g6 | ⟨F', g6, g7, g8⟩
      · exact .inl g6
      · obtain ⟨k1, rfl⟩ := RWe_RJe (I := I) (β := βc) _ _ _ hs g8
        exact .inr ⟨g6, g7, k1⟩
    · obtain ⟨rfl, rfl⟩ := hle
      obtain ⟨bl, g1, g2⟩ := hro
      exact ⟨bl, hβc _ _ hm _ g1, g2⟩
    · cases hle; exact hro
  · intro n hn
    show (lk ρ n).bind β = none
    rw [hnone n hn]; rfl
  · intro n hn
    show (match lk ρ n with | some n => φ n | none => []) = _
    rw [hnone n hn]
  · intro n m hnm b hb hb'
    simp only [φc] at hb hb'
    split at hb
    · rename_i k hk
      split at hb'
      · rename_i k' hk'
        exact hC.sep k k' (by rintro rfl; exact hnm (lk_inj h4 hk hk')) b hb hb'
      · simp at hb'
    · simp at hb
  · intro n b hb
    simp only [φc] at hb
    split at hb
    · exact hC.nimm _ b hb
    · simp at hb
  · intro n b hb
    simp only [φc] at hb
    split at hb
    · exact hC.flt _ b hb
    · simp at hb
  · intro n o ho hwr b hb
    obtain ⟨m, p, hm, hp, hle⟩ := leObs_get h2 n _ ho
    simp only [φc, hm] at hb
    cases p <;> first | exact hC.wok m _ hp rfl b hb | skip
    · cases o <;> first | exact hle.elim | cases hwr
    · intro hy
      have := hC.fnew m _ _ hp b hb
      have := hC.ylt b hy
      omega
    · cases o <;> first | exact hle.elim | cases hwr
    · cases o <;> exact hle.elim
  · intro n sz xs ho b hb
    obtain ⟨m, p, hm, hp, hle⟩ := leObs_get h2 n _ ho
    simp only [φc, hm] at hb
    cases p <;> first | exact hle.elim | exact hC.fnew m _ _ hp b hb
  · intro n bl hb
    exact hβc n n (h7 n (hfs n (by rw [hb]; simp))) bl (hC.bet n bl hb)
end
end Go.Proofs.Ytpaccfeiaekacaa.Vs

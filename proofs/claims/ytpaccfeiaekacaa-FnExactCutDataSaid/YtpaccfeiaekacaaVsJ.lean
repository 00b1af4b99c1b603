import Derived.Test.YtpaccfeiaekacaaVsI
import Derived.Laws.AppendOwn
namespace Go.Proofs.Ytpaccfeiaekacaa.Vs
set_option linter.unusedVariables false
set_option linter.unusedSimpArgs false
set_option linter.unusedSectionVars false
set_option linter.unnecessarySimpa false
set_option linter.all false
open Go.RowKit
variable {P : Program}
/-- The values of a row of elements. -/
theorem RIe_vals {w : World} {I : Nat → Prop} {b sz : Nat} : ∀ (xs : List (List AV)) (o : Nat), RIe w I b sz o xs →
    ∃ vs : List Value, vs.length = xs.length * sz ∧ (∀ (j : Nat) v, vs[j]? = some v → w.cell? ⟨b, o + j, none⟩ = some v) ∧ (∀ v ∈ vs, v.oneCell' = true) ∧
      ∀ (i : Nat) x, xs[i]? = some x → x.length = sz ∧ ∀ (j : Nat) c, x[j]? = some c → ∃ v, vs[i * sz + j]? = some v ∧ RI w I c v
  | [], o, _ => ⟨[], by simp, by simp, by simp, by simp⟩
  | x :: xs, o, h => by
    rw [RIe] at h
    obtain ⟨h1, h2, h3⟩ := h
    obtain ⟨vs, hl, hc, ho, hx⟩ := RIe_vals xs (o + sz) h3
    have hcs : ∀ (cs : List AV) (o : Nat), RIc w I b o cs → ∃ us : List Value, us.length = cs.length ∧ (∀ (j : Nat) v, us[j]? = some v → w.cell? ⟨b, o + j, none⟩ = some v) ∧ (∀ v ∈ us, v.oneCell' = true) ∧
        ∀ (j : Nat) c, cs[j]? = some c → ∃ v, us[j]? = some v ∧ RI w I c v := by
      intro cs
      induction cs with
      | nil => intro o _; exact ⟨[], rfl, by simp, by simp, by simp⟩
      | cons c cs ih =>
        intro o h
        rw [RIc] at h
        obtain ⟨⟨v, hv, hr⟩, h'⟩ := h
        obtain ⟨us, g1, g2, g3, g4⟩ := ih (o + 1) h'
        refine ⟨v :: us, by simp [g1], ?_, ?_, ?_⟩
        · intro j u hu
          cases j with
          | zero => simp at hu; subst hu; simpa using hv
          | succ j => have := g2 j u (by simpa using hu); rwa [show o + 1 + j = o + (j + 1) by omega] at this
        · intro u hu
          rcases List.mem_cons.1 hu with rfl | hu
          · exact RI_one _ _ hr
          · exact g3 u hu
        · intro j d hd
          cases j with
          | zero => simp at hd; subst hd; exact ⟨v, rfl, hr⟩
          | succ j => simpa using g4 j d (by simpa using hd)
    obtain ⟨us, g1, g2, g3, g4⟩ := hcs x o h2
    refine ⟨us ++ vs, by simp [g1, h1, hl, Nat.add_mul]; omega, ?_, ?_, ?_⟩
    · intro j u hu
      by_cases hj : j < us.length
      · rw [List.getElem?_append_left hj] at hu; exact g2 j u hu
      · rw [List.getElem?_append_right (by omega)] at hu
        have := hc _ u hu
        rwa [show o + sz + (j - us.length) = o + j by omega] at this
    · intro u hu
      rcases List.mem_append.1 hu with hu | hu
      · exact g3 u hu
      · exact ho u hu
    · intro i y hy
      cases i with
      | zero =>
        simp at hy; subst hy
        refine ⟨h1, fun j c hc => ?_⟩
        obtain ⟨v, hv, hr⟩ := g4 j c hc
        refine ⟨v, ?_, hr⟩
        rw [Nat.zero_mul, Nat.zero_add, List.getElem?_append_left (List.getElem?_eq_some_iff.1 hv).1]
        exact hv
      | succ i =>
        obtain ⟨k1, k2⟩ := hx i y (by simpa using hy)
        refine ⟨k1, fun j c hc => ?_⟩
        obtain ⟨v, hv, hr⟩ := k2 j c hc
        refine ⟨v, ?_, hr⟩
        rw [List.getElem?_append_right (by rw [g1, h1, Nat.add_mul]; omega)]
        rw [g1, h1, show (i + 1) * sz + j - sz = i * sz + j by rw [Nat.add_mul]; omega]
        exact hv
section
variable {C : Cx} {st : St} {a : Act} {w : World} {I : Nat → Prop} {β : Beta} {φ : Nat → List Nat}
theorem news_spec (hC : Conc C st a w I β φ) {sz : Nat} {x : AV} {p : Prop} {ys : List (List AV)} (h : aNews st sz x = some (p, ys)) (hp : p) {y : Value} (hy : Rv w I β x y) :
    (ys = [] ∧ ∃ a' cap, y = .slice a' 0 cap) ∨ ∃ b o cap, y = .slice (some ⟨b, o, none⟩) ys.length cap ∧ RIe w I b sz o ys := by
  unfold aNews at h
  split at h
  · rename_i n off len
    obtain ⟨bl, hb, hle, hx⟩ := hy
    have key : ∀ xs : List (List AV), bl.o = 0 → xs.length ≤ bl.cap → (bl.cap = 0 ∨ RIe w I bl.b bl.sz 0 xs) → off + len ≤ xs.length →
        ((xs.drop off).take len = [] ∧ ∃ a' cap, y = .slice a' 0 cap) ∨ ∃ b o cap, y = .slice (some ⟨b, o, none⟩) ((xs.drop off).take len).length cap ∧ RIe w I b bl.sz o ((xs.drop off).take len) := by
      intro xs h0 h1 h2 h3
      have hlen : ((xs.drop off).take len).length = len := by simp; omega
      rcases hx with rfl | ⟨h5, a', rfl⟩
      · rcases h2 with h2 | h2
        · have h4 : len = 0 := by omega
          subst h4
          exact .inl ⟨by simp, _, _, rfl⟩
        · refine .inr ⟨_, _, _, by rw [hlen], ?_⟩
          rw [h0]
          exact RIe_take _ _ len (RIe_drop _ _ off h2)
      · have h4 : len = 0 := by omega
        subst h4
        exact .inl ⟨by simp, _, _, rfl⟩
    split at h
    · rename_i s xs hob
      split at h
      · rename_i hs
        cases h
        obtain ⟨bl', hb', h1, h2, h3, h4⟩ := hC.ob _ _ hob
        rw [hb] at hb'; cases hb'
        subst hs; subst h1
        exact key xs h2 h3 (h4.imp (·.1) (·.2.2)) hp
      · cases h
    · rename_i s xs hob
      split at h
      · rename_i hs
        cases h
        obtain ⟨bl', hb', h1, h2, h3, -, h4⟩ := hC.ob _ _ hob
        rw [hb] at hb'; cases hb'
        subst hs; subst h1
        exact key xs h2 h3 (h4.imp id (·.2)) hp
      · cases h
    · cases h
  · rename_i s xs
    split at h
    · rename_i hs
      cases h
      change RI w I (.sl s ys) y at hy
      rw [RI] at hy
      obtain ⟨a', cap, rfl, -, hy⟩ := hy
      rcases hy with rfl | ⟨b, o, rfl, -, hr⟩
      · exact .inl ⟨rfl, _, _, rfl⟩
      · rcases hs with rfl | rfl
        · exact .inr ⟨_, _, _, rfl, hr⟩
        · exact .inl ⟨rfl, _, _, rfl⟩
    · cases h
  · cases h
    cases hy
    exact .inl ⟨rfl, _, _, rfl⟩
  · cases h
/-- An own row is handed on to a new name. -/
theorem Conc.rename (hC : Conc C st a w I β φ) {n nm sz : Nat} {xs zs : List (List AV)} (hob : st.ob n = some (.flat sz xs)) (hn : st.ob nm = none) {bl : Bl} (hbl : β n = some bl) {w' : World}
    (hev : Evo (· ∈ φ n) w w') (hro : RO w' I (upd β nm (some bl)) nm (.flat sz zs) (φ n)) :
    Conc C { st with ob := upd (upd st.ob n (some .dead)) nm (some (.flat sz zs)) } a w' I (upd β nm (some bl)) (upd (upd φ n []) nm (φ n)) := by
  have hne : n ≠ nm := by rintro rfl; rw [hob] at hn; cases hn
  have hβn : β nm = none := hC.dom nm hn
  have hφ : ∀ m b, b ∈ upd (upd φ n []) nm (φ n) m → (m = nm ∧ b ∈ φ n) ∨ (m ≠ nm ∧ m ≠ n ∧ b ∈ φ m) := by
    intro m b hb
    by_cases h1 : m = nm
    · subst h1; rw [upd_same] at hb; exact .inl ⟨rfl, hb⟩
    · rw [upd_other _ _ h1] at hb
      by_cases h2 : m = n
      · subst h2; simp [upd_same] at hb
      · rw [upd_other _ _ h2] at hb; exact .inr ⟨h1, h2, hb⟩
  have hdom : ∀ m, upd (upd st.ob n (some OB.dead)) nm (some (OB.flat sz zs)) m = none → m ≠ nm ∧ m ≠ n ∧ st.ob m = none := by
    intro m ho
    by_cases h1 : m = nm
    · subst h1; simp [upd_same] at ho
    · rw [upd_other _ _ h1] at ho
      by_cases h2 : m = n
      · subst h2; simp [upd_same] at ho
      · rw [upd_other _ _ h2] at ho; exact ⟨h1, h2, ho⟩
  refine hC.move (· ∈ φ n) hev (fun b hb => ⟨n, hb, fun hy => by have := hC.fnew n _ _ hob b hb; have := hC.ylt b hy; omega⟩) (fun _ hb => hb) (fun _ hb => .inl hb) ?_ ?_ ?_ ?_ ?_ ?_ ?_ ?_ ?_
  · intro m bl' hb
    rw [upd_other]
    · exact hb
    · rintro rfl; rw [hβn] at hb; cases hb
  · intro m o ho
    by_cases h1 : m = nm
    · subst h1
      simp only [upd_same, Option.some.injEq] at ho ⊢
      subst ho
      exact .inr hro
    · rw [upd_other _ _ h1] at ho
      by_cases h2 : m = n
      · subst h2
        simp only [upd_same, Option.some.injEq] at ho
        subst ho
        exact .inr (by rw [upd_other _ _ h1, upd_same]; rfl)
      · rw [upd_other _ _ h2] at ho
        exact .inl ⟨ho, by rw [upd_other _ _ h1, upd_other _ _ h2], fun b hb hb' => hC.sep m n h2 b hb hb'⟩
  · intro m ho
    obtain ⟨h1, h2, h3⟩ := hdom m ho
    rw [upd_other _ _ h1]; exact hC.dom m h3
  · intro m ho
    obtain ⟨h1, h2, h3⟩ := hdom m ho
    rw [upd_other _ _ h1, upd_other _ _ h2]; exact hC.fdom m h3
  · intro m k hmk b hb hb'
    rcases hφ m b hb with ⟨rfl, h1⟩ | ⟨h1, h2, h3⟩
    · rcases hφ k b hb' with ⟨rfl, -⟩ | ⟨-, h5, h6⟩
      · exact hmk rfl
      · exact hC.sep n k (Ne.symm h5) b h1 h6
    · rcases hφ k b hb' with ⟨rfl, h4⟩ | ⟨-, -, h6⟩
      · exact hC.sep m n h2 b h3 h4
      · exact hC.sep m k hmk b h3 h6
  · intro m b hb
    rcases hφ m b hb with ⟨-, h1⟩ | ⟨-, -, h3⟩
    · exact hC.nimm n b h1
    · exact hC.nimm m b h3
  · intro m b hb
    have : b < w.heap.size ∧ (C.X b ∨ C.Y b ∨ C.w0.heap.size ≤ b) := by
      rcases hφ m b hb with ⟨-, h1⟩ | ⟨-, -, h3⟩
      · exact hC.flt n b h1
      · exact hC.flt m b h3
    exact ⟨Nat.lt_of_lt_of_le this.1 hev.size, this.2⟩
  · intro m cs ho hwr b hb
    rcases hφ m b hb with ⟨rfl, h1⟩ | ⟨h1, h2, h3⟩
    · simp only [upd_same, Option.some.injEq] at ho; subst ho; cases hwr
    · rw [upd_other _ _ h1, upd_other _ _ h2] at ho
      exact hC.wok m cs ho hwr b h3
  · intro m s ys ho b hb
    rcases hφ m b hb with ⟨-, h1⟩ | ⟨h1, h2, h3⟩
    · exact hC.fnew n _ _ hob b h1
    · rw [upd_other _ _ h1, upd_other _ _ h2] at ho
      exact hC.fnew m _ _ ho b h3
/-- A name that has no block of its own (an empty row). -/
theorem Conc.newEmpty (hC : Conc C st a w I β φ) {nm sz : Nat} (hn : st.ob nm = none) :
    ∃ β' φ', Conc C { st with ob := upd st.ob nm (some (.flat sz [])) } a w I β' φ' ∧ β' nm = some ⟨0, 0, sz, 0⟩ := by
  refine ⟨upd β nm (some ⟨0, 0, sz, 0⟩), φ, ?_, upd_same _ _ _⟩
  have hdom : ∀ m, upd st.ob nm (some (OB.flat sz [])) m = none → m ≠ nm ∧ st.ob m = none := by
    intro m ho
    by_cases h1 : m = nm
    · subst h1; simp [upd_same] at ho
    · rw [upd_other _ _ h1] at ho; exact ⟨h1, ho⟩
  refine hC.move (fun _ => False) (Evo.refl _ w) (fun _ hf => hf.elim) (fun _ hb => hb) (fun _ hb => .inl hb) ?_ ?_ ?_ ?_ hC.sep hC.nimm hC.flt ?_ ?_
  · intro m bl' hb
    rw [upd_other]
    · exact hb
    · rintro rfl; rw [hC.dom _ hn] at hb; cases hb
  · intro m o ho
    by_cases h1 : m = nm
    · subst h1
      simp only [upd_same, Option.some.injEq] at ho
      subst ho
      exact .inr ⟨_, upd_same _ _ _, rfl, rfl, by simp, .inl ⟨rfl, hC.fdom _ hn⟩⟩
    · rw [upd_other _ _ h1] at ho
      exact .inl ⟨ho, rfl, fun _ _ hf => hf⟩
  · intro m ho
    rw [upd_other _ _ (hdom m ho).1]; exact hC.dom m (hdom m ho).2
  · intro m ho
    exact hC.fdom m (hdom m ho).2
  · intro m cs ho hwr b hb
    by_cases h1 : m = nm
    · subst h1; rw [hC.fdom _ hn] at hb; simp at hb
    · rw [upd_other _ _ h1] at ho
      exact hC.wok m cs ho hwr b hb
  · intro m s ys ho b hb
    by_cases h1 : m = nm
    · subst h1; rw [hC.fdom _ hn] at hb; simp at hb
    · rw [upd_other _ _ h1] at ho
      exact hC.fnew m _ _ ho b hb
end
end Go.Proofs.Ytpaccfeiaekacaa.Vs

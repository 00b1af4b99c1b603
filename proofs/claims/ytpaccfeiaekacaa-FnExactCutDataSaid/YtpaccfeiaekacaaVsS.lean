import Derived.Test.YtpaccfeiaekacaaVsR
namespace Go.Proofs.Ytpaccfeiaekacaa.Vs
set_option linter.unusedVariables false
set_option linter.unusedSimpArgs false
set_option linter.unusedSectionVars false
set_option linter.unnecessarySimpa false
set_option linter.all false
open Go.RowKit
variable {P : Program}
section
variable {C : Cx} {st : St} {a : Act} {w : World} {I : Nat → Prop} {β : Beta} {φ : Nat → List Nat}
/-- Cells, matched. -/
theorem am1s_Rcs {βc : Beta} {ν : Nat → Option Nat} (hC : Conc C st a w I β φ) (hν : ∀ i n, ν i = some n → ∀ bl, β n = some bl → βc i = some bl) {cs cs' : List AV} (hn : ∀ n ∈ arrN1 cs, ∀ sz ys, st.ob n ≠ some (.flat sz ys))
    (h : am1s st ν cs cs') {b o : Nat} (hr : Rcs w I β b o cs) : Rcs w I βc b o cs' := by
  obtain ⟨hl, hg⟩ := am1s_len _ _ h
  rw [Rcs_iff] at hr ⊢
  intro j c hc
  obtain ⟨d, hd, hm⟩ := hg j c hc
  obtain ⟨v, hv, hrv⟩ := hr j d hd
  exact ⟨v, hv, am1_sound hC hν d c (fun n hn' => hn n (arrN1_mem _ _ _ hd n hn')) hm hrv⟩
/-- The objects' blocks behind a call that wrote them. -/
theorem wrote_sound (hC : Conc C st a w I β φ) {w' : World} {J : Nat → Prop} (hIJ : ∀ b, I b → J b) (hJ : ∀ b, J b → I b ∨ (w.heap.size ≤ b ∧ b < w'.heap.size)) {wns : List Nat} {wos' : List (List AV)} (hl : wns.length = wos'.length) (hnd : wns.Nodup)
    (hobj : ∀ (i n : Nat), wns[i]? = some n → ∃ cs bl, st.ob n = some (.cells cs) ∧ β n = some bl)
    (hev : Evo (fun b => ∃ (i n : Nat) (bl : Bl), wns[i]? = some n ∧ β n = some bl ∧ bl.b = b) w w')
    (hpost : ∀ (i n : Nat) cs, wns[i]? = some n → wos'[i]? = some cs → ∃ bl, β n = some bl ∧ OwnW w' bl.b bl.o cs.length ∧ Rcs w' J β bl.b bl.o cs) :
    Conc C { st with ob := updL st.ob (zipW wns wos') } a w' J β φ := by
  obtain ⟨hz1, hz2⟩ := zipW_get wns wos' st.ob hnd hl
  have hphi : ∀ (i n : Nat), wns[i]? = some n → ∃ bl, β n = some bl ∧ φ n = [bl.b] := by
    intro i n hi
    obtain ⟨cs, bl, h1, h2⟩ := hobj i n hi
    obtain ⟨bl', hb', hφ, -⟩ := hC.ob _ _ h1
    exact ⟨bl', hb', hφ⟩
  have hcase : ∀ n, n ∈ wns ∨ n ∉ wns := fun n => Classical.em _
  have hin : ∀ n, n ∈ wns → ∃ cs', updL st.ob (zipW wns wos') n = some (.cells cs') ∧ ∃ (i : Nat), wns[i]? = some n ∧ wos'[i]? = some cs' := by
    intro n hn
    obtain ⟨i, hi⟩ := List.getElem?_of_mem hn
    have hlt : i < wos'.length := by rw [← hl]; exact (List.getElem?_eq_some_iff.1 hi).1
    exact ⟨wos'[i], hz1 i n _ hi (List.getElem?_eq_getElem hlt), i, hi, List.getElem?_eq_getElem hlt⟩
  have hnone : ∀ n, updL st.ob (zipW wns wos') n = none → st.ob n = none := fun n h => updL_none h
  refine hC.move (fun b => ∃ (i n : Nat) (bl : Bl), wns[i]? = some n ∧ β n = some bl ∧ bl.b = b) hev ?_ hIJ ?_ (fun _ _ h => h) ?_ (fun n h => hC.dom n (hnone n h)) (fun n h => hC.fdom n (hnone n h)) hC.sep ?_ ?_ ?_ ?_
  · rintro b ⟨i, n, bl, h1, h2, rfl⟩
    obtain ⟨cs, -, h3, -⟩ := hobj i n h1
    obtain ⟨bl', h4, h5⟩ := hphi i n h1
    rw [h2] at h4; cases h4
    exact ⟨n, by rw [h5]; simp, hC.wok n _ h3 rfl _ (by rw [h5]; simp)⟩
  · intro b hb
    exact (hJ b hb).imp id .inl
  · intro n o ho
    rcases hcase n with hn | hn
    · obtain ⟨cs', h1, i, h2, h3⟩ := hin n hn
      rw [h1] at ho; cases ho
      obtain ⟨bl, h4, h5, h6⟩ := hpost i n cs' h2 h3
      obtain ⟨bl', h7, h8⟩ := hphi i n h2
      rw [h4] at h7; cases h7
      exact .inr ⟨bl, h4, h8, h5, h6⟩
    · rw [hz2 n hn] at ho
      refine .inl ⟨ho, rfl, ?_⟩
      rintro b hb ⟨i, m, bl, h1, h2, rfl⟩
      obtain ⟨bl', h3, h4⟩ := hphi i m h1
      rw [h2] at h3; cases h3
      have hnm : n ≠ m := by rintro rfl; exact hn (List.mem_of_getElem? h1)
      exact hC.sep n m hnm _ hb (by rw [h4]; simp)
  · intro n b hb hj
    rcases hJ b hj with h1 | h1
    · exact hC.nimm n b hb h1
    · have := (hC.flt n b hb).1; omega
  · intro n b hb
    exact ⟨Nat.lt_of_lt_of_le (hC.flt n b hb).1 hev.size, (hC.flt n b hb).2⟩
  · intro n cs ho hwr b hb
    rcases hcase n with hn | hn
    · obtain ⟨i, hi⟩ := List.getElem?_of_mem hn
      obtain ⟨cs0, -, h1, -⟩ := hobj i n hi
      exact hC.wok n _ h1 rfl b hb
    · rw [hz2 n hn] at ho; exact hC.wok n cs ho hwr b hb
  · intro n sz xs ho b hb
    rcases hcase n with hn | hn
    · obtain ⟨cs', h1, -⟩ := hin n hn
      rw [h1] at ho; cases ho
    · rw [hz2 n hn] at ho; exact hC.fnew n sz xs ho b hb
theorem gstep_sound (hC : Conc C st a w I β φ) {f : FuncId} {actual : List AV} {vs : List Value} {v : AV} {u : Ups} (hvs : Rv2s w I β actual vs) (h : GStep P st f actual v u) :
    Calls P f ⟨vs⟩ w fun e w' => ∃ y I' β' φ', e = .returned y ∧ Rv w' I' β' v y ∧ Conc C { st with ob := updL st.ob u } a w' I' β' φ' := by
  obtain ⟨rns, wns, args', ros, wos, wos', hG, hl1, hl2, hl3, h8, hnd, hargs, hR, hW, rfl⟩ := h
  obtain ⟨I2, φ2, hI2, hC2⟩ := frz_sound (st := st) (arrN2 actual ++ cellN st (rns ++ wns)) st I φ (fun n => .inl rfl) hC
  have hsame : ∀ n sz ys, (st.ob n = some (.flat sz ys) ∨ st.ob n = some (.shared sz ys)) → (updL st.ob (frzU st (arrN2 actual ++ cellN st (rns ++ wns))) n = some (.flat sz ys) ∨ updL st.ob (frzU st (arrN2 actual ++ cellN st (rns ++ wns))) n = some (.shared sz ys)) := by
    intro n sz ys ho
    by_cases hin : n ∈ arrN2 actual ++ cellN st (rns ++ wns)
    · exact .inr (frzU_get _ _ _ _ _ hin ho (.inl rfl))
    · rw [frzU_other _ _ _ hin]; exact ho
  have hnf : ∀ n ∈ arrN2 actual ++ cellN st (rns ++ wns), ∀ sz ys, updL st.ob (frzU st (arrN2 actual ++ cellN st (rns ++ wns))) n ≠ some (.flat sz ys) := by
    intro n hn sz ys ho
    have : ∀ (ns : List Nat) (ob : Nat → Option OB), updL ob (frzU st ns) n = some (.flat sz ys) → ob n = some (.flat sz ys) := by
      intro ns
      induction ns with
      | nil => intro ob h; exact h
      | cons k ns ih =>
        intro ob h
        unfold frzU at h
        split at h
        · rw [updL_cons] at h
          have := ih _ h
          by_cases hk : n = k
          · subst hk; simp [upd_same] at this
          · rwa [upd_other _ _ hk] at this
        · exact ih _ h
    have h1 := this _ _ ho
    rw [frzU_get _ _ _ _ _ hn (.inl h1) (.inl rfl)] at ho
    cases ho
  have hcells : ∀ n cs, st.ob n = some (.cells cs) → updL st.ob (frzU st (arrN2 actual ++ cellN st (rns ++ wns))) n = some (.cells cs) := by
    intro n cs h
    have : ∀ (ns : List Nat) (ob : Nat → Option OB), ob n = some (.cells cs) → updL ob (frzU st ns) n = some (.cells cs) := by
      intro ns
      induction ns with
      | nil => intro ob h; exact h
      | cons k ns ih =>
        intro ob h'
        unfold frzU
        split
        · rename_i sz xs hk
          rw [updL_cons]
          refine ih _ ?_
          by_cases hkn : n = k
          · subst hkn; rw [h] at hk; cases hk
          · rw [upd_other _ _ hkn]; exact h'
        · exact ih _ h'
    exact this _ _ h
  have hrocells : ∀ n cs, st.ob n = some (.rocells cs) → updL st.ob (frzU st (arrN2 actual ++ cellN st (rns ++ wns))) n = some (.rocells cs) := by
    intro n cs h
    have : ∀ (ns : List Nat) (ob : Nat → Option OB), ob n = some (.rocells cs) → updL ob (frzU st ns) n = some (.rocells cs) := by
      intro ns
      induction ns with
      | nil => intro ob h; exact h
      | cons k ns ih =>
        intro ob h'
        unfold frzU
        split
        · rename_i sz xs hk
          rw [updL_cons]
          refine ih _ ?_
          by_cases hkn : n = k
          · subst hkn; rw [h] at hk; cases hk
          · rw [upd_other _ _ hkn]; exact h'
        · exact ih _ h'
    exact this _ _ h
  -- the callee's names
  let βc : Beta := fun i => if i < ros.length ∨ (8 ≤ i ∧ i < 8 + wos.length) then (nuOf rns wns i).bind β else none
  have hnu : ∀ i n, nuOf rns wns i = some n → i < ros.length ∨ (8 ≤ i ∧ i < 8 + wos.length) := by
    intro i n h
    unfold nuOf at h
    split at h
    · left; rw [← hl1]; exact (List.getElem?_eq_some_iff.1 h).1
    · right; have := (List.getElem?_eq_some_iff.1 h).1; omega
  have hνc : ∀ i n, nuOf rns wns i = some n → ∀ bl, β n = some bl → βc i = some bl := by
    intro i n h bl hb
    simp only [βc, if_pos (hnu i n h), h, Option.bind_some, hb]
  have hβc : ∀ i bl, βc i = some bl → ∃ n, nuOf rns wns i = some n ∧ β n = some bl := by
    intro i bl h
    simp only [βc] at h
    split at h
    · exact Option.bind_eq_some_iff.1 h
    · cases h
  have hinj : ∀ i j n, nuOf rns wns i = some n → nuOf rns wns j = some n → i = j := by
    intro i j n hi hj
    have hi2 := hnu i n hi; have hj2 := hnu j n hj
    unfold nuOf at hi hj
    have key : ∀ (p q : Nat), (rns ++ wns)[p]? = some n → (rns ++ wns)[q]? = some n → p = q := by
      intro p q hp hq
      obtain ⟨hp1, hp2⟩ := List.getElem?_eq_some_iff.1 hp
      obtain ⟨hq1, hq2⟩ := List.getElem?_eq_some_iff.1 hq
      exact (List.getElem_inj hnd).1 (hp2.trans hq2.symm)
    have conv : ∀ i, (if i < 8 then rns[i]? else wns[i - 8]?) = some n → ∃ p, (rns ++ wns)[p]? = some n ∧ (i < 8 → p = i) ∧ (¬ i < 8 → p = rns.length + (i - 8)) ∧ (i < 8 → p < rns.length) := by
      intro i h
      by_cases h8 : i < 8
      · rw [if_pos h8] at h
        have := (List.getElem?_eq_some_iff.1 h).1
        exact ⟨i, by rw [List.getElem?_append_left this]; exact h, fun _ => rfl, fun hh => absurd h8 hh, fun _ => this⟩
      · rw [if_neg h8] at h
        exact ⟨rns.length + (i - 8), by rw [List.getElem?_append_right (by omega)]; simpa using h, fun hh => absurd hh h8, fun _ => rfl, fun hh => absurd hh h8⟩
    obtain ⟨p, p1, p2, p3, p4⟩ := conv i hi
    obtain ⟨q, q1, q2, q3, q4⟩ := conv j hj
    have := key p q p1 q1
    by_cases ci : i < 8 <;> by_cases cj : j < 8
    · have := p2 ci; have := q2 cj; omega
    · have := p4 ci; have := q3 cj; omega
    · have := q4 cj; have := p3 ci; omega
    · have := p3 ci; have := q3 cj; omega
  have hvs2 : Rv2s w I2 β actual vs := Rv2s_mono hI2 (fun _ _ => rfl) (fun _ _ h => h) _ _ hvs
  have hmatch : Rv2s w I2 βc args' vs := am2s_sound hC2 hνc _ _ (fun n hn => hnf n (by simp [hn])) (am2s_ob hsame _ _ hargs) hvs2
  have hcells2 : ∀ (k n : Nat) cs cs', (rns ++ wns)[k]? = some n → (st.ob n = some (.cells cs) ∨ st.ob n = some (.rocells cs)) → am1s st (nuOf rns wns) cs cs' → ∃ bl, β n = some bl ∧ φ2 n = [bl.b] ∧ ¬ I2 bl.b ∧ bl.b < w.heap.size ∧ Rcs w I2 βc bl.b bl.o cs' := by
    intro k n cs cs' hk ho hm
    have hmem : n ∈ rns ++ wns := List.mem_of_getElem? hk
    have hn2 : ∀ m ∈ arrN1 cs, ∀ sz ys, updL st.ob (frzU st (arrN2 actual ++ cellN st (rns ++ wns))) m ≠ some (.flat sz ys) := fun m hm' => hnf m (by simp [cellN_mem _ n cs hmem ho m hm'])
    have hobj : ∃ bl, β n = some bl ∧ φ2 n = [bl.b] ∧ Rcs w I2 β bl.b bl.o cs := by
      rcases ho with ho | ho
      · obtain ⟨bl, h1, h2, -, h3⟩ := hC2.ob n _ (hcells n cs ho); exact ⟨bl, h1, h2, h3⟩
      · obtain ⟨bl, h1, h2, h3⟩ := hC2.ob n _ (hrocells n cs ho); exact ⟨bl, h1, h2, h3⟩
    obtain ⟨bl, h1, h2, h3⟩ := hobj
    exact ⟨bl, h1, h2, hC2.nimm n _ (by rw [h2]; simp), (hC2.flt n _ (by rw [h2]; simp)).1, am1s_Rcs hC2 hνc hn2 (am1s_ob hsame _ _ hm) h3⟩
  have hcall := hG.2 w I2 βc vs hC2.immLt hmatch h8 (fun n hn => by
      simp only [βc]
      rw [if_neg (by unfold fname at hn; exact hn)]) (fun i cs' hi => by
      obtain ⟨n, cs, h1, h2, h3⟩ := objsR_get _ _ hR i cs' hi
      obtain ⟨bl, g1, g2, g3, g4, g5⟩ := hcells2 i n cs cs' (by rw [List.getElem?_append_left (List.getElem?_eq_some_iff.1 h1).1]; exact h1) h2 h3
      have hi8 : i < 8 := by have := (List.getElem?_eq_some_iff.1 hi).1; omega
      exact ⟨bl, hνc i n (by unfold nuOf; rw [if_pos hi8]; exact h1) bl g1, g3, g4, g5⟩) (fun i cs' hi => by
      obtain ⟨n, cs, h1, h2, h3⟩ := objsW_get _ _ hW i cs' hi
      obtain ⟨bl, g1, g2, g3, g4, g5⟩ := hcells2 (rns.length + i) n cs cs' (by rw [List.getElem?_append_right (by omega)]; simpa using h1) (.inl h2) h3
      obtain ⟨bl', k1, k2, ⟨arr, ty, k3, k4⟩, -⟩ := hC2.ob n _ (hcells n cs h2)
      rw [g1] at k1; cases k1
      have hlen := (am1s_len _ _ h3).1
      exact ⟨bl, hνc (8 + i) n (by unfold nuOf; rw [if_neg (by omega)]; simpa using h1) bl g1, g3, g4, ⟨arr, ty, k3, by omega⟩, g5⟩) (fun n m bl bl' hnm h1 h2 he => by
      obtain ⟨n', g1, g2⟩ := hβc n bl h1
      obtain ⟨m', g3, g4⟩ := hβc m bl' h2
      have hne : n' ≠ m' := by rintro rfl; exact hnm (hinj n m n' g1 g3)
      have hphi : ∀ (k p : Nat) (bl : Bl), nuOf rns wns k = some p → β p = some bl → bl.b ∈ φ2 p := by
        intro k p bl hk hb
        have hp : p ∈ rns ++ wns := by
          unfold nuOf at hk
          split at hk
          · exact List.mem_append.2 (.inl (List.mem_of_getElem? hk))
          · exact List.mem_append.2 (.inr (List.mem_of_getElem? hk))
        have : ∃ cs, st.ob p = some (.cells cs) ∨ st.ob p = some (.rocells cs) := by
          rcases List.mem_append.1 hp with hp | hp
          · obtain ⟨i, hi⟩ := List.getElem?_of_mem hp
            have hlt : i < ros.length := by rw [← hl1]; exact (List.getElem?_eq_some_iff.1 hi).1
            obtain ⟨q, cs, e1, e2, -⟩ := objsR_get _ _ hR i _ (List.getElem?_eq_getElem hlt)
            rw [hi] at e1; cases e1
            exact ⟨cs, e2⟩
          · obtain ⟨i, hi⟩ := List.getElem?_of_mem hp
            have hlt : i < wos.length := by rw [← hl2]; exact (List.getElem?_eq_some_iff.1 hi).1
            obtain ⟨q, cs, e1, e2, -⟩ := objsW_get _ _ hW i _ (List.getElem?_eq_getElem hlt)
            rw [hi] at e1; cases e1
            exact ⟨cs, .inl e2⟩
        obtain ⟨cs, ho⟩ := this
        rcases ho with ho | ho
        · obtain ⟨bl', e1, e2, -⟩ := hC2.ob p _ (hcells p cs ho)
          rw [hb] at e1; cases e1; rw [e2]; simp
        · obtain ⟨bl', e1, e2, -⟩ := hC2.ob p _ (hrocells p cs ho)
          rw [hb] at e1; cases e1; rw [e2]; simp
      exact hC2.sep n' m' hne bl.b (hphi n n' bl g1 g2) (by rw [he]; exact hphi m m' bl' g3 g4))
  refine hcall.mono ?_
  rintro e w' ⟨y, I', rfl, hev, hIs, hIn, hy, -, hpost⟩
  have hwobj : ∀ (i n : Nat), wns[i]? = some n → ∃ cs bl, st.ob n = some (.cells cs) ∧ β n = some bl := by
    intro i n hi
    have hlt : i < wos.length := by rw [← hl2]; exact (List.getElem?_eq_some_iff.1 hi).1
    obtain ⟨q, cs, e1, e2, -⟩ := objsW_get _ _ hW i _ (List.getElem?_eq_getElem hlt)
    rw [hi] at e1; cases e1
    obtain ⟨bl, e3, -⟩ := hC.ob n _ e2
    exact ⟨cs, bl, e2, e3⟩
  have hev' : Evo (fun b => ∃ (i n : Nat) (bl : Bl), wns[i]? = some n ∧ β n = some bl ∧ bl.b = b) w w' := by
    refine hev.mono ?_
    rintro b - ⟨i, bl, h1, h2, rfl⟩
    obtain ⟨n, g1, g2⟩ := hβc _ _ h2
    unfold nuOf at g1
    rw [if_neg (by omega)] at g1
    exact ⟨i, n, bl, by simpa using g1, g2, rfl⟩
  have hwnd : wns.Nodup := (List.nodup_append.1 hnd).2.1
  have hpost' : ∀ (i n : Nat) cs, wns[i]? = some n → wos'[i]? = some cs → ∃ bl, β n = some bl ∧ OwnW w' bl.b bl.o cs.length ∧ Rcs w' I' (fun _ => none) bl.b bl.o cs := by
    intro i n cs h1 h2
    obtain ⟨bl, g1, g2, g3⟩ := hpost i cs h2
    obtain ⟨m, g4, g5⟩ := hβc _ _ g1
    unfold nuOf at g4
    rw [if_neg (by omega)] at g4
    have : m = n := by rw [show 8 + i - 8 = i by omega, h1] at g4; cases g4; rfl
    subst this
    exact ⟨bl, g5, g2, g3⟩
  rw [updL_append]
  by_cases hsc : (scal v && wos'.all (fun cs => cs.all scal1)) = true
  · rw [if_pos hsc, updL_nil]
    simp only [Bool.and_eq_true] at hsc
    refine ⟨y, I, β, φ, rfl, scal_Rv _ _ hsc.1 hy, wrote_sound hC (fun _ h => h) (fun _ h => .inl h) (by omega) hwnd hwobj hev' ?_⟩
    · intro i n cs h1 h2
      obtain ⟨bl, g1, g2, g3⟩ := hpost' i n cs h1 h2
      refine ⟨bl, g1, g2, ?_⟩
      have hsc2 := List.all_eq_true.1 hsc.2 cs (List.mem_of_getElem? h2)
      rw [Rcs_iff] at g3 ⊢
      intro j c hc
      obtain ⟨z, hz, hrz⟩ := g3 j c hc
      exact ⟨z, hz, scal1_Rv _ _ (List.all_eq_true.1 hsc2 c (List.mem_of_getElem? hc)) hrz⟩
  · rw [if_neg hsc]
    refine ⟨y, I', β, φ2, rfl, Rv_mono (fun _ h => h) (fun _ _ => rfl) (fun n bl h => by cases h) _ _ hy, wrote_sound hC2 hIs hIn (by omega) hwnd ?_ hev' ?_⟩
    · intro i n hi
      obtain ⟨cs, bl, h1, h2⟩ := hwobj i n hi
      exact ⟨cs, bl, hcells n cs h1, h2⟩
    · intro i n cs h1 h2
      obtain ⟨bl, g1, g2, g3⟩ := hpost' i n cs h1 h2
      exact ⟨bl, g1, g2, Rcs_mono (fun _ h => h) (fun _ _ => rfl) (fun n bl h => by cases h) _ rfl _ _ g3⟩
end
end Go.Proofs.Ytpaccfeiaekacaa.Vs

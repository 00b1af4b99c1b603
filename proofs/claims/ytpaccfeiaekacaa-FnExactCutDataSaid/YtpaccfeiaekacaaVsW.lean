import Derived.Test.YtpaccfeiaekacaaVsV
namespace Go.Proofs.Ytpaccfeiaekacaa.Vs
set_option linter.unusedVariables false
set_option linter.unusedSimpArgs false
set_option linter.unusedSectionVars false
set_option linter.unnecessarySimpa false
set_option linter.all false
open Go.RowKit
variable {P : Program}
section
variable {C : Cx} {st : St} {a : Act} {w : World} {I : Nat → Prop} {β : Beta} {φ : Nat → List Nat}
theorem loadCell_sound (hC : Conc C st a w I β φ) {t : TypeId} {av v : AV} {x : Value} {c : Prop} {u : Ups} (hx : Rv w I β av x) (h : aLoad P st t av = some (c, v, u)) (hc : c) :
    ∃ y, (do loadVar t (← asAddr x) : Sem Value).run P w = .ok y w ∧ Rv w I β v y := by
  obtain ⟨-, y, hy, hr⟩ := load_sound hC hx h hc
  refine ⟨y, ?_, hr⟩
  have hs : ∃ b o, x = .pointer (some ⟨b, o, none⟩) := by
    unfold aLoad at h
    split at h
    · rename_i T cs hT hcs
      obtain ⟨b, o, rfl, -⟩ := cellsAt_spec hC hx hcs
      exact ⟨b, o, rfl⟩
    · cases h
  obtain ⟨b, o, rfl⟩ := hs
  exact hy
def resRun (tmps : Array Value) : ResultVar → Sem Value
  | .tmp t => pure (tmps.getD t undef)
  | .cell a t => do loadVar t (← asAddr (tmps.getD a undef))
theorem resAll_run (hC : Conc C st a w I β φ) : ∀ (rs : List ResultVar) (p : Prop) (vs : List AV), resAll P st rs = some (p, vs) → p →
    ∃ ys : List Value, ys.length = vs.length ∧ (rs.mapM (resRun a.tmps)).run P w = .ok ys w ∧ ∀ (i : Nat) v, vs[i]? = some v → ∃ y, ys[i]? = some y ∧ Rv w I β v y
  | [], p, vs, h, _ => by cases h; exact ⟨[], rfl, by simp, by simp⟩
  | r :: rs, p, vs, h, hp => by
    unfold resAll at h
    split at h
    · rename_i p1 v u q vs' h1 h2
      cases h
      obtain ⟨ys, hl, hrun, hget⟩ := resAll_run hC rs q vs' h2 hp.2
      have hone : ∃ y, (resRun a.tmps r).run P w = .ok y w ∧ Rv w I β v y := by
        cases r with
        | tmp t =>
          cases h1
          exact ⟨a.tmps.getD t undef, by simp [resRun], hC.env t⟩
        | cell t T => exact loadCell_sound hC (hC.env t) h1 hp.1
      obtain ⟨y, hy, hry⟩ := hone
      refine ⟨y :: ys, by simp [hl], by simp [List.mapM_cons, hy, hrun], fun i x hx => ?_⟩
      cases i with
      | zero => simp at hx; subst hx; exact ⟨y, rfl, hry⟩
      | succ i => simpa using hget i x (by simpa using hx)
    · cases h
theorem Rv2s_get : ∀ (l : List AV) (ys : List Value), l.length = ys.length → (∀ (i : Nat) v, l[i]? = some v → ∃ y, ys[i]? = some y ∧ Rv2 w I β v y) → Rv2s w I β l ys
  | [], ys, h, _ => by cases ys with | nil => rfl | cons _ _ => simp at h
  | v :: l, [], h, _ => by simp at h
  | v :: l, y :: ys, h, hg => by
    obtain ⟨y', h1, h2⟩ := hg 0 v rfl
    cases h1
    exact ⟨_, _, rfl, h2, Rv2s_get l ys (by simpa using h) fun i x hx => by simpa using hg (i + 1) x (by simpa using hx)⟩
theorem Rv_Rv2 : ∀ (v : AV) (x : Value), (∀ vs, v ≠ .tup vs) → Rv w I β v x → Rv2 w I β v x
  | .tup _, _, h, _ => (h _ rfl).elim
  | .g _, _, _, h | .s _, _, _, h | .sl .., _, _, h | .arr .., _, _, h | .ptr .., _, _, h | .eptr .., _, _, h | .ip .., _, _, h | .fn .., _, _, h | .agg _, _, _, h | .undef, _, _, h => h
end
/-- The names whose rows the end hands on. -/
def endN (st : St) (vs : List AV) : List Nat := arrN2 vs ++ cellN st (List.range 16)
theorem st0_conc {args : List AV} {ros wos : List (List AV)} {w : World} {I : Nat → Prop} {β : Beta} {vs : List Value} {nt : Nat} (hnt : vs.length ≤ nt) (hI : ∀ b, I b → b < w.heap.size) (hargs : Rv2s w I β args vs) (h8 : ros.length ≤ 8)
    (hn : ∀ n, ¬ fname ros.length wos.length n → β n = none)
    (hr : ∀ (i : Nat) cs, ros[i]? = some cs → ∃ bl, β i = some bl ∧ ¬ I bl.b ∧ bl.b < w.heap.size ∧ Rcs w I β bl.b bl.o cs)
    (hw : ∀ (i : Nat) cs, wos[i]? = some cs → ∃ bl, β (8 + i) = some bl ∧ ¬ I bl.b ∧ bl.b < w.heap.size ∧ OwnW w bl.b bl.o cs.length ∧ Rcs w I β bl.b bl.o cs)
    (hinj : ∀ n m bl bl', n ≠ m → β n = some bl → β m = some bl' → bl.b ≠ bl'.b) :
    Conc ⟨w, I, fun b => ∃ i bl, i < wos.length ∧ β (8 + i) = some bl ∧ bl.b = b, fun b => ∃ i bl, i < ros.length ∧ β i = some bl ∧ bl.b = b, β, nt⟩ (st0 args ros wos)
      { tmps := ⟨vs⟩ ++ Array.replicate (nt - vs.length) undef, defers := [] } w I β (fun n => match formOb ros wos n, β n with | some _, some bl => [bl.b] | _, _ => []) := by
  have hform : ∀ n o, formOb ros wos n = some o → (∃ cs, o = .rocells cs ∧ n < 8 ∧ ros[n]? = some cs) ∨ (∃ cs, o = .cells cs ∧ 8 ≤ n ∧ wos[n - 8]? = some cs) := by
    intro n o h
    unfold formOb at h
    split at h
    · rename_i hlt
      obtain ⟨cs, h1, rfl⟩ := Option.map_eq_some_iff.1 h
      exact .inl ⟨cs, rfl, hlt, h1⟩
    · rename_i hlt
      obtain ⟨cs, h1, rfl⟩ := Option.map_eq_some_iff.1 h
      exact .inr ⟨cs, rfl, by omega, h1⟩
  have hobj : ∀ n o, formOb ros wos n = some o → ∃ bl, β n = some bl ∧ ¬ I bl.b ∧ bl.b < w.heap.size := by
    intro n o h
    rcases hform n o h with ⟨cs, -, h1, h2⟩ | ⟨cs, -, h1, h2⟩
    · obtain ⟨bl, g1, g2, g3, -⟩ := hr n cs h2; exact ⟨bl, g1, g2, g3⟩
    · obtain ⟨bl, g1, g2, g3, -⟩ := hw (n - 8) cs h2
      rw [show 8 + (n - 8) = n by omega] at g1
      exact ⟨bl, g1, g2, g3⟩
  have hphi : ∀ n b, b ∈ (match formOb ros wos n, β n with | some _, some bl => [bl.b] | _, _ => []) → ∃ o bl, formOb ros wos n = some o ∧ β n = some bl ∧ bl.b = b := by
    intro n b h
    split at h
    · rename_i o bl h1 h2
      simp at h
      exact ⟨o, bl, h1, h2, h.symm⟩
    · simp at h
  refine ⟨Evo.refl _ _, hI, fun _ h => h, fun _ h => .inl h, ?_, rfl, ?_, ?_, ?_, ?_, ?_, ?_, ?_, ?_, ?_, ?_, ?_, fun n bl h => h⟩
  · simp; omega
  · intro t
    show Rv w I β (args.getD t .undef) _
    have : ∀ (l : List AV) (ys : List Value), Rv2s w I β l ys → ∀ (t : Nat) v, l[t]? = some v → ∃ y, ys[t]? = some y ∧ Rv2 w I β v y := by
      intro l
      induction l with
      | nil => intro ys _ t v h; simp at h
      | cons c l ih =>
        rintro _ ⟨y, ys, rfl, h1, h2⟩ t v h
        cases t with
        | zero => simp at h; subst h; exact ⟨y, rfl, h1⟩
        | succ t => simpa using ih ys h2 t v (by simpa using h)
    cases ht : args[t]? with
    | none => simp [List.getD, ht]; exact trivial
    | some v =>
      obtain ⟨y, h1, h2⟩ := this _ _ hargs t v ht
      have hlt := (List.getElem?_eq_some_iff.1 h1).1
      have : (⟨vs⟩ ++ Array.replicate (nt - vs.length) undef : Array Value).getD t undef = y := by
        rw [Array.getD_eq_getD_getElem?, Array.getElem?_append_left (by simpa using hlt)]
        simp [h1]
      rw [this]
      simp only [List.getD, ht, Option.getD_some]
      exact Rv2_Rv _ _ h2
  · intro n o ho
    have ho : formOb ros wos n = some o := ho
    simp only [ho]
    rcases hform n o ho with ⟨cs, rfl, h1, h2⟩ | ⟨cs, rfl, h1, h2⟩
    · obtain ⟨bl, g1, g2, g3, g4⟩ := hr n cs h2
      rw [g1]
      exact ⟨bl, g1, rfl, g4⟩
    · obtain ⟨bl, g1, g2, g3, g4, g5⟩ := hw (n - 8) cs h2
      rw [show 8 + (n - 8) = n by omega] at g1
      rw [g1]
      exact ⟨bl, g1, rfl, g4, g5⟩
  · intro n h
    apply hn
    rintro (h1 | ⟨h1, h2⟩)
    · have : formOb ros wos n = none := h
      unfold formOb at this
      rw [if_pos (by omega)] at this
      simp at this
      omega
    · have : formOb ros wos n = none := h
      unfold formOb at this
      rw [if_neg (by omega)] at this
      simp at this
      omega
  · intro n h
    have : formOb ros wos n = none := h
    simp only [this]
  · intro n m hnm b h1 h2
    obtain ⟨o, bl, -, g1, rfl⟩ := hphi n b h1
    obtain ⟨o', bl', -, g2, g3⟩ := hphi m _ h2
    exact hinj n m bl bl' hnm g1 g2 g3.symm
  · intro n b h
    obtain ⟨o, bl, g0, g1, rfl⟩ := hphi n b h
    obtain ⟨bl', k1, k2, k3⟩ := hobj n o g0
    rw [g1] at k1; cases k1
    exact k2
  · intro n b h
    obtain ⟨o, bl, g0, g1, rfl⟩ := hphi n b h
    obtain ⟨bl', k1, k2, k3⟩ := hobj n o g0
    rw [g1] at k1; cases k1
    refine ⟨k3, ?_⟩
    rcases hform n o g0 with ⟨cs, -, h1, h2⟩ | ⟨cs, -, h1, h2⟩
    · exact .inr (.inl ⟨n, bl, (List.getElem?_eq_some_iff.1 h2).1, g1, rfl⟩)
    · exact .inl ⟨n - 8, bl, (List.getElem?_eq_some_iff.1 h2).1, by rw [show 8 + (n - 8) = n by omega]; exact g1, rfl⟩
  · rintro n cs ho hwr b h ⟨i, bl', h1, h2, h3⟩
    obtain ⟨o, bl, g0, g1, rfl⟩ := hphi n b h
    rcases hform n _ ho with ⟨cs', rfl, -⟩ | ⟨cs', -, h4, -⟩
    · cases hwr
    · exact hinj n i bl bl' (by omega) g1 h2 h3.symm
  · rintro b ⟨i, bl, h1, h2, rfl⟩
    obtain ⟨bl', g1, g2, g3, -⟩ := hr i _ (List.getElem?_eq_getElem h1)
    rw [h2] at g1; cases g1; exact g3
  · intro n sz xs ho b h
    rcases hform n _ ho with ⟨cs', h4, -⟩ | ⟨cs', h4, -⟩ <;> cases h4
  · rintro b ⟨i, bl, h1, h2, rfl⟩
    obtain ⟨bl', g1, g2, g3, -⟩ := hw i _ (List.getElem?_eq_getElem h1)
    rw [h2] at g1; cases g1; exact g3
theorem frz_same (st : St) (Z : List Nat) : ∀ n sz ys, (st.ob n = some (.flat sz ys) ∨ st.ob n = some (.shared sz ys)) → (updL st.ob (frzU st Z) n = some (.flat sz ys) ∨ updL st.ob (frzU st Z) n = some (.shared sz ys)) := by
  intro n sz ys ho
  by_cases hin : n ∈ Z
  · exact .inr (frzU_get _ _ _ _ _ hin ho (.inl rfl))
  · rw [frzU_other _ _ _ hin]; exact ho
theorem frz_nf (st : St) (Z : List Nat) : ∀ n ∈ Z, ∀ sz ys, updL st.ob (frzU st Z) n ≠ some (.flat sz ys) := by
  intro n hn sz ys ho
  have : ∀ (ns : List Nat) (ob : Nat → Option OB), updL ob (frzU st ns) n = some (.flat sz ys) → ob n = some (.flat sz ys) := by
    intro ns
    induction ns with
    | nil => intro ob h; exact h
    | cons k ns ih =>
      intro ob h
      unfold frzU at h
      split at h
      · rw [updL_cons] at h
        have := ih _ h
        by_cases hk : n = k
        · subst hk; simp [upd_same] at this
        · rwa [upd_other _ _ hk] at this
      · exact ih _ h
  have h1 := this _ _ ho
  rw [frzU_get _ _ _ _ _ hn (.inl h1) (.inl rfl)] at ho
  cases ho
theorem frz_cells (st : St) (Z : List Nat) : ∀ n cs, st.ob n = some (.cells cs) → updL st.ob (frzU st Z) n = some (.cells cs) := by
  intro n cs h
  have : ∀ (ns : List Nat) (ob : Nat → Option OB), ob n = some (.cells cs) → updL ob (frzU st ns) n = some (.cells cs) := by
    intro ns
    induction ns with
    | nil => intro ob h; exact h
    | cons k ns ih =>
      intro ob h'
      unfold frzU
      split
      · rename_i sz xs hk
        rw [updL_cons]
        refine ih _ ?_
        by_cases hkn : n = k
        · subst hkn; rw [h] at hk; cases hk
        · rw [upd_other _ _ hkn]; exact h'
      · exact ih _ h'
  exact this _ _ h
theorem wosOk_get {st : St} : ∀ (i : Nat) (wos' : List (List AV)), wosOk st i wos' → ∀ (j : Nat) cs', wos'[j]? = some cs' → ∃ cs, st.ob (8 + (i + j)) = some (.cells cs) ∧ am1s st (fun _ => none) cs cs'
  | i, [], _, j, cs', h => by simp at h
  | i, c :: r, h, j, cs', hj => by
    cases j with
    | zero =>
      simp at hj; subst hj
      have h1 := h.1
      split at h1
      · rename_i cs hcs; exact ⟨cs, by simpa using hcs, h1⟩
      · exact h1.elim
    | succ j =>
      have := wosOk_get (i + 1) r h.2 j cs' (by simpa using hj)
      rwa [show i + 1 + j = i + (j + 1) by omega] at this
theorem amR_noTup {st : St} {v r : AV} (h : amR st v r) : ∀ vs, v ≠ .tup vs := by
  rintro vs rfl; simp [amR, am2] at h
theorem amRs_two {st : St} {vs : List AV} {r : AV} (h : amRs st vs r) : (∃ v, vs = [v] ∧ amR st v r) ∨ (vs.length ≠ 1 ∧ ∃ rs, r = .tup rs ∧ am2s st (fun _ => none) vs rs) := by
  unfold amRs at h
  split at h
  · exact .inl ⟨_, rfl, h⟩
  · rename_i vs rs hne
    refine .inr ⟨?_, rs, rfl, h⟩
    intro hl
    obtain ⟨v, rfl⟩ := List.length_eq_one_iff.1 hl
    exact hne v rfl
  · exact h.elim
theorem results_eq (fn : Func) (tmps : Array Value) : results fn tmps = (do let vs ← fn.results.mapM (resRun tmps); pure (if h : vs.size = 1 then vs[0] else .tuple vs) : Sem Value) := by
  unfold results
  congr 1
theorem Sem.run_map' {α β : Type} (f : α → β) (s : Sem α) (w : World) : (f <$> s).run P w = (s.run P w).andThen fun a w => .ok (f a) w := by
  rw [map_eq_pure_bind, Sem.run_bind]
  simp
/-- A FUNCTION WALKED keeps its contract. -/
theorem gcall_of_walk {f : FuncId} {fn : Func} {c : Code} {args : List AV} {ros wos : List (List AV)} {r : AV} {wos' : List (List AV)}
    (hf : P.funcs[f]? = some fn) (hname : (fn.name == "runtime.NumGoroutine") = false) (hb : fn.body = some c) (hnt : args.length ≤ fn.ntmps) (hlen : wos'.length = wos.length) (hw8 : wos.length ≤ 8)
    (h : AW P fn.ntmps (forms ros.length wos.length) c (retQ P fn.results.toList r wos') (st0 args ros wos)) : GCall P f args ros wos r wos' := by
  refine ⟨⟨fn, hf, hname, by rw [hb]; rfl⟩, ?_⟩
  intro w I β vs hI hargs h8 hn hr hw hinj
  have hvl : vs.length = args.length := by
    have : ∀ (l : List AV) (ys : List Value), Rv2s w I β l ys → ys.length = l.length := by
      intro l
      induction l with
      | nil => rintro _ rfl; rfl
      | cons c l ih => rintro _ ⟨y, ys, rfl, -, h2⟩; simp [ih ys h2]
    exact this _ _ hargs
  have hC0 := st0_conc (nt := fn.ntmps) (vs := vs) (by omega) hI hargs h8 hn hr hw hinj
  refine calls_of_wp hf hb (wp_mono (h _ _ w rfl ?_ ⟨_, _, _, hC0⟩) ?_)
  · intro n hne
    have : fname ros.length wos.length n := by
      apply Classical.byContradiction
      intro hh; exact hne (hn n hh)
    unfold forms
    rcases this with h1 | ⟨h1, h2⟩
    · exact List.mem_append.2 (.inl (List.mem_range.2 h1))
    · exact List.mem_append.2 (.inr (List.mem_map.2 ⟨n - 8, List.mem_range.2 (by omega), by omega⟩))
  · intro e a w' hq
    have key : (∃ st, endQ P fn.results.toList r wos' st ∧ CC ⟨w, I, fun b => ∃ i bl, i < wos.length ∧ β (8 + i) = some bl ∧ bl.b = b, fun b => ∃ i bl, i < ros.length ∧ β i = some bl ∧ bl.b = b, β, fn.ntmps⟩ st a w') →
        a.defers = [] ∧ ∃ v, (results fn a.tmps).run P w' = .ok v w' ∧ ∃ v' I', Ending.returned v = .returned v' ∧ Evo (fun b => ∃ i bl, i < wos.length ∧ β (8 + i) = some bl ∧ bl.b = b) w w' ∧ (∀ b, I b → I' b) ∧ (∀ b, I' b → I b ∨ (w.heap.size ≤ b ∧ b < w'.heap.size)) ∧
          Rv w' I' (fun _ => none) r v' ∧ wos'.length = wos.length ∧ ∀ (i : Nat) cs, wos'[i]? = some cs → ∃ bl, β (8 + i) = some bl ∧ OwnW w' bl.b bl.o cs.length ∧ Rcs w' I' (fun _ => none) bl.b bl.o cs := by
      rintro ⟨st, ⟨p, avs, hres, hp, hr', hwos'⟩, I1, β1, φ1, hC1⟩
      obtain ⟨ys, hyl, hrun, hget⟩ := resAll_run hC1 _ _ _ hres hp
      obtain ⟨I2, φ2, hI2, hC2⟩ := frz_sound (st := st) (endN st avs) st I1 φ1 (fun n => .inl rfl) hC1
      have hsame := frz_same st (endN st avs)
      have hnf := frz_nf st (endN st avs)
      have hget2 : ∀ (i : Nat) v, avs[i]? = some v → ∃ y, ys[i]? = some y ∧ Rv w' I2 β1 v y := by
        intro i v hv
        obtain ⟨y, h1, h2⟩ := hget i v hv
        exact ⟨y, h1, Rv_mono hI2 (fun _ _ => rfl) (fun _ _ h => h) _ _ h2⟩
      refine ⟨hC1.dfr, (if ys.length = 1 then ys.getD 0 undef else .tuple ⟨ys⟩), ?_, _, I2, rfl, hC2.evo, hC2.imm0, ?_, ?_, hlen, ?_⟩
      · rw [results_eq, Sem.run_bind, Array.mapM_eq_mapM_toList, Sem.run_map', hrun]
        simp only [Result.andThen_ok, Sem.run_pure]
        congr 1
        match ys with
        | [] => rfl
        | [y] => rfl
        | y :: z :: l => rfl
      · intro b hb
        rcases hC2.immNew b hb with h1 | h1
        · exact .inl h1
        · exact .inr ⟨h1, hC2.immLt b hb⟩
      · rcases amRs_two hr' with ⟨v, rfl, hm⟩ | ⟨hne, rs, rfl, hm⟩
        · obtain ⟨y, h1, h2⟩ := hget2 0 v rfl
          have hl1 : ys.length = 1 := by simpa using hyl
          rw [if_pos hl1]
          have : ys.getD 0 undef = y := by simp [List.getD, h1]
          rw [this]
          refine Rv2_Rv _ _ (am2_sound hC2 (fun _ _ h => by cases h) v r (fun n hn => hnf n (by simp [endN, hn])) (am2_ob hsame _ _ hm) (Rv_Rv2 _ _ (amR_noTup hm) h2))
        · rw [if_neg (by omega)]
          refine ⟨ys, rfl, am2s_sound hC2 (fun _ _ h => by cases h) avs rs (fun n hn => hnf n (by simp [endN, hn])) (am2s_ob hsame _ _ hm) (Rv2s_get _ _ hyl.symm fun i v hv => ?_)⟩
          obtain ⟨y, h1, h2⟩ := hget2 i v hv
          exact ⟨y, h1, Rv_Rv2 _ _ (fun vs => am2s_noTup _ _ hm v (List.mem_of_getElem? hv) vs) h2⟩
      · intro i cs' hi
        obtain ⟨cs, h1, h2⟩ := wosOk_get 0 wos' hwos' i cs' hi
        rw [show 8 + (0 + i) = 8 + i by omega] at h1
        have hi8 : i < 8 := by have := (List.getElem?_eq_some_iff.1 hi).1; omega
        obtain ⟨bl, g1, g2, ⟨arr, ty, g3, g4⟩, g5⟩ := hC2.ob _ _ (frz_cells st (endN st avs) _ _ h1)
        have hlt : i < wos.length := by rw [← hlen]; exact (List.getElem?_eq_some_iff.1 hi).1
        obtain ⟨bl', k1, -⟩ := hw i _ (List.getElem?_eq_getElem hlt)
        have := hC2.bet _ _ k1
        rw [this] at g1; cases g1
        refine ⟨bl, k1, ⟨arr, ty, g3, ?_⟩, ?_⟩
        · have := (am1s_len _ _ h2).1; omega
        · exact am1s_Rcs hC2 (fun _ _ h => by cases h) (fun n hn => hnf n (by
            refine List.mem_append.2 (.inr (cellN_mem _ (8 + i) cs (List.mem_range.2 (by omega)) (.inl h1) n hn)))) (am1s_ob hsame _ _ h2) g5
    cases e with
    | normal => exact key hq
    | ret => exact key hq
    | exit i => obtain ⟨s, h1, h2⟩ := hq; exact h1.elim
    | _ => exact hq.elim
end Go.Proofs.Ytpaccfeiaekacaa.Vs

import Derived.Test.YtpaccfeiaekacaaVsXC
namespace Go.Proofs.Ytpaccfeiaekacaa.Vs
set_option linter.unusedVariables false
set_option linter.unusedSimpArgs false
set_option linter.unusedSectionVars false
set_option linter.unnecessarySimpa false
set_option linter.all false
open Go.RowKit
variable {P : Program}
/-! ### From a walk to a contract with rows of the caller's own -/
def stX (args : List AV) (wos : List OB) : St := { env := fun n => args.getD n .undef, ob := postOb wos [] }
def formsX (nw : Nat) : List Nat := (List.range nw).map (8 + ·)
/-- The names that the formal ones stand for at the end. μ: those of the new rows. -/
def hsE (nw : Nat) (μ : List Nat) : List Nat := (List.range nw).map (8 + ·) ++ List.replicate (8 - nw) 7 ++ μ
def axE (st : St) (hs Z : List Nat) (o o' : OB) : Prop := o' = .dead ∨ axO false st hs Z o o'
def axW (st : St) (hs Z : List Nat) : Nat → List OB → Prop
  | _, [] => True
  | i, o' :: r => (∃ o, st.ob (8 + i) = some o ∧ axE st hs Z o o') ∧ axW st hs Z (i + 1) r
def axRs (st : St) (hs Z : List Nat) : List AV → AV → Prop
  | [v], r => ax2 false st hs Z v r
  | vs, .tup rs => ax2s false st hs Z vs rs
  | _, _ => False
def endX (P : Program) (rs : List ResultVar) (r : AV) (wos' fos : List OB) (s0 : St) : Prop :=
  ∃ p vs μ Z, resAll P s0 rs = some (p, vs) ∧ p ∧ (Z.map (·.1)).Nodup ∧ (∀ z ∈ Z, s0.ob z.1 = none) ∧ μ.length = fos.length ∧ (addZ s0 Z).ob 7 = none ∧ μ.Nodup ∧ (∀ (i : Nat) o, wos'[i]? = some o → o ≠ .dead → 8 + i ∉ μ) ∧
    axRs (addZ s0 Z) (hsE wos'.length μ) (Z.map (·.1)) vs r ∧ axW (addZ s0 Z) (hsE wos'.length μ) (Z.map (·.1)) 0 wos' ∧ axOs false (addZ s0 Z) (hsE wos'.length μ) (Z.map (·.1)) μ fos
def retX (P : Program) (rs : List ResultVar) (r : AV) (wos' fos : List OB) : AExit → St → Prop
  | .normal, s => endX P rs r wos' fos s
  | .ret, s => endX P rs r wos' fos s
  | _, _ => False
theorem axW_get {st : St} {hs Z : List Nat} : ∀ (i : Nat) (wos' : List OB), axW st hs Z i wos' → ∀ (j : Nat) o', wos'[j]? = some o' → ∃ o, st.ob (8 + (i + j)) = some o ∧ axE st hs Z o o'
  | i, [], _, j, o', h => by simp at h
  | i, c :: r, h, j, o', hj => by
    cases j with
    | zero => simp at hj; subst hj; simpa using h.1
    | succ j =>
      have := axW_get (i + 1) r h.2 j o' (by simpa using hj)
      rwa [show i + 1 + j = i + (j + 1) by omega] at this
theorem ax2_notup {st : St} {hs Z : List Nat} {v r : AV} (h : ax2 false st hs Z v r) : ∀ vs, v ≠ .tup vs := by
  rintro vs rfl; simp [ax2] at h
theorem axRs_two {st : St} {hs Z : List Nat} {vs : List AV} {r : AV} (h : axRs st hs Z vs r) : (∃ v, vs = [v] ∧ ax2 false st hs Z v r) ∨ (vs.length ≠ 1 ∧ ∃ rs, r = .tup rs ∧ ax2s false st hs Z vs rs) := by
  unfold axRs at h
  split at h
  · exact .inl ⟨_, rfl, h⟩
  · rename_i vs rs hne
    refine .inr ⟨?_, rs, rfl, h⟩
    intro hl
    obtain ⟨v, rfl⟩ := List.length_eq_one_iff.1 hl
    exact hne v rfl
  · exact h.elim
theorem stX_conc {args : List AV} {wos : List OB} {w : World} {I : Nat → Prop} {β : Beta} {χ : Nat → List Nat} {vs : List Value} {nt : Nat} (hnt : vs.length ≤ nt) (hI : ∀ b, I b → b < w.heap.size) (hargs : Rv2s w I β args vs)
    (hxk : wos.all OB.xk = true)
    (hn : ∀ n, postOb wos [] n = none → β n = none ∧ χ n = [])
    (ho : ∀ n o, postOb wos [] n = some o → RO w I β n o (χ n))
    (hsep : ∀ n m, n ≠ m → ∀ b, b ∈ χ n → b ∈ χ m → False)
    (hχ : ∀ n b, b ∈ χ n → ¬ I b ∧ b < w.heap.size) :
    Conc ⟨w, I, fun b => ∃ n, b ∈ χ n, fun _ => False, β, nt⟩ (stX args wos) { tmps := ⟨vs⟩ ++ Array.replicate (nt - vs.length) undef, defers := [] } w I β χ := by
  refine ⟨Evo.refl _ _, hI, fun _ h => h, fun _ h => .inl h, ?_, rfl, ?_, ho, fun n h => (hn n h).1, fun n h => (hn n h).2, hsep, fun n b hb => (hχ n b hb).1, fun n b hb => ⟨(hχ n b hb).2, .inl ⟨n, hb⟩⟩, fun _ _ _ _ _ _ h => h, fun _ h => h.elim, ?_, ?_, fun n bl h => h⟩
  · simp; omega
  · intro t
    show Rv w I β (args.getD t .undef) _
    have : ∀ (l : List AV) (ys : List Value), Rv2s w I β l ys → ∀ (t : Nat) v, l[t]? = some v → ∃ y, ys[t]? = some y ∧ Rv2 w I β v y := by
      intro l
      induction l with
      | nil => intro ys _ t v h; simp at h
      | cons c l ih =>
        rintro _ ⟨y, ys, rfl, h1, h2⟩ t v h
        cases t with
        | zero => simp at h; subst h; exact ⟨y, rfl, h1⟩
        | succ t => simpa using ih ys h2 t v (by simpa using h)
    cases ht : args[t]? with
    | none => simp [List.getD, ht]; exact trivial
    | some v =>
      obtain ⟨y, h1, h2⟩ := this _ _ hargs t v ht
      have hlt := (List.getElem?_eq_some_iff.1 h1).1
      have : (⟨vs⟩ ++ Array.replicate (nt - vs.length) undef : Array Value).getD t undef = y := by
        rw [Array.getD_eq_getD_getElem?, Array.getElem?_append_left (by simpa using hlt)]
        simp [h1]
      rw [this]
      simp only [List.getD, ht, Option.getD_some]
      exact Rv2_Rv _ _ h2
  · intro n sz xs h
    have h : postOb wos [] n = some (.flat sz xs) := h
    unfold postOb at h
    split at h
    · split at h
      · cases h
      · have := List.all_eq_true.1 hxk _ (List.mem_of_getElem? h)
        cases this
    · simp at h
  · rintro b ⟨n, hb⟩
    exact (hχ n b hb).2
theorem hsE_w {nw : Nat} {μ : List Nat} (h8 : nw ≤ 8) (i : Nat) (hi : i < nw) : nuX (hsE nw μ) (8 + i) = some (8 + i) := by
  unfold nuX hsE
  rw [if_neg (by omega), show 8 + i - 8 = i by omega, List.append_assoc, List.getElem?_append_left (by simpa using hi)]
  simp [hi]
theorem hsE_f {nw : Nat} {μ : List Nat} (h8 : nw ≤ 8) (k : Nat) : nuX (hsE nw μ) (16 + k) = μ[k]? := by
  unfold nuX hsE
  rw [if_neg (by omega), List.getElem?_append_right (by simp; omega)]
  congr 1
  simp
  omega
theorem hsE_p {nw : Nat} {μ : List Nat} (h8 : nw ≤ 8) (i : Nat) (h1 : nw ≤ i) (h2 : i < 8) : nuX (hsE nw μ) (8 + i) = some 7 := by
  unfold nuX hsE
  rw [if_neg (by omega), show 8 + i - 8 = i by omega, List.getElem?_append_left (by simp; omega), List.getElem?_append_right (by simpa using h1), List.getElem?_replicate, if_pos (by simp; omega)]
/-- A FUNCTION WALKED keeps its contract. -/
theorem xcall_of_walk {f : FuncId} {fn : Func} {c : Code} {args : List AV} {wos wos' fos : List OB} {r : AV}
    (hf : P.funcs[f]? = some fn) (hname : (fn.name == "runtime.NumGoroutine") = false) (hb : fn.body = some c) (hnt : args.length ≤ fn.ntmps) (hlen : wos'.length = wos.length) (hw8 : wos.length ≤ 8) (hxk : wos.all OB.xk = true) (hxk' : (wos' ++ fos).all OB.xk = true)
    (h : AW P fn.ntmps (formsX wos.length) c (retX P fn.results.toList r wos' fos) (stX args wos)) : XCall P f args wos r wos' fos := by
  refine ⟨⟨fn, hf, hname, by rw [hb]; rfl⟩, hlen, hw8, hxk', ?_⟩
  intro w I β χ vs hI hargs hn ho hsep hχ
  have hvl : vs.length = args.length := by
    have : ∀ (l : List AV) (ys : List Value), Rv2s w I β l ys → ys.length = l.length := by
      intro l
      induction l with
      | nil => rintro _ rfl; rfl
      | cons c l ih => rintro _ ⟨y, ys, rfl, -, h2⟩; simp [ih ys h2]
    exact this _ _ hargs
  have hC0 := stX_conc (nt := fn.ntmps) (vs := vs) (by omega) hI hargs hxk hn ho hsep hχ
  refine calls_of_wp hf hb (wp_mono (h _ _ w rfl ?_ ⟨_, _, _, hC0⟩) ?_)
  · intro n hne
    unfold formsX
    cases hp : postOb wos [] n with
    | none => exact (hne (hn n hp).1).elim
    | some o =>
      unfold postOb at hp
      split at hp
      · split at hp
        · cases hp
        · have := (List.getElem?_eq_some_iff.1 hp).1
          exact List.mem_map.2 ⟨n - 8, List.mem_range.2 (by omega), by omega⟩
      · simp at hp
  · intro e a w' hq
    have key : (∃ st, endX P fn.results.toList r wos' fos st ∧ CC ⟨w, I, fun b => ∃ n, b ∈ χ n, fun _ => False, β, fn.ntmps⟩ st a w') →
        a.defers = [] ∧ ∃ v, (results fn a.tmps).run P w' = .ok v w' ∧ ∃ (v' : Value) (I' : Nat → Prop) (β' : Beta) (χ' : Nat → List Nat), Ending.returned v = .returned v' ∧ Evo (fun b => ∃ n, b ∈ χ n) w w' ∧ (∀ b, I b → I' b) ∧ (∀ b, I' b → I b ∨ (w.heap.size ≤ b ∧ b < w'.heap.size)) ∧
          Rv w' I' β' r v' ∧ (∀ n bl, β n = some bl → β' n = some bl) ∧
          (∀ n, postOb wos' fos n = none → β' n = none ∧ χ' n = []) ∧
          (∀ n o, postOb wos' fos n = some o → RO w' I' β' n o (χ' n)) ∧
          (∀ n m, n ≠ m → ∀ b, b ∈ χ' n → b ∈ χ' m → False) ∧
          (∀ n b, b ∈ χ' n → ¬ I' b ∧ b < w'.heap.size ∧ ((∃ m, b ∈ χ m) ∨ w.heap.size ≤ b)) := by
      rintro ⟨s0, ⟨p, avs, μ, Z, hres, hp, hz1, hz2, hμl, h7, hμn, hμd, hr', hw', hf'⟩, I1, β0, φ1, hC0⟩
      obtain ⟨ys, hyl, hrun, hget0⟩ := resAll_run hC0 _ _ _ hres hp
      obtain ⟨β1, hb1, hC1, hZ⟩ := addZ_conc Z s0 β0 hC0 hz1 hz2
      have hget : ∀ (i : Nat) v, avs[i]? = some v → ∃ y, ys[i]? = some y ∧ Rv w' I1 β1 v y := by
        intro i v hv
        obtain ⟨y, h1, h2⟩ := hget0 i v hv
        exact ⟨y, h1, Rv_mono (fun _ h => h) (fun _ _ => rfl) hb1 _ _ h2⟩
      have h8' : wos'.length ≤ 8 := by omega
      -- the caller's names
      let β' : Beta := fun n => match postOb wos' fos n with | some _ => (nuX (hsE wos'.length μ) n).bind β1 | none => none
      let χ' : Nat → List Nat := fun n => match postOb wos' fos n with | some .dead => [] | some _ => (match nuX (hsE wos'.length μ) n with | some m => φ1 m | none => []) | none => []
      have hβ7 : β1 7 = none := hC1.dom 7 h7
      have hpw : ∀ i, i < wos'.length → postOb wos' fos (8 + i) = wos'[i]? := fun i hi => by
        unfold postOb; rw [if_pos (by omega), if_neg (by omega), show 8 + i - 8 = i by omega]
      have hpf : ∀ k, postOb wos' fos (16 + k) = fos[k]? := fun k => by
        unfold postOb; rw [if_neg (by omega), show 16 + k - 16 = k by omega]
      have hpcase : ∀ n o, postOb wos' fos n = some o → (∃ i, i < wos'.length ∧ n = 8 + i ∧ wos'[i]? = some o ∧ nuX (hsE wos'.length μ) n = some (8 + i)) ∨ (∃ (k m : Nat), n = 16 + k ∧ fos[k]? = some o ∧ μ[k]? = some m ∧ nuX (hsE wos'.length μ) n = some m) := by
        intro n o h
        unfold postOb at h
        split at h
        · split at h
          · cases h
          · have hlt := (List.getElem?_eq_some_iff.1 h).1
            refine .inl ⟨n - 8, hlt, by omega, h, ?_⟩
            have := hsE_w (μ := μ) h8' (n - 8) hlt
            have e : 8 + (n - 8) = n := by omega
            rw [e] at this ⊢
            exact this
        · have hlt := (List.getElem?_eq_some_iff.1 h).1
          have hlt2 : n - 16 < μ.length := by omega
          refine .inr ⟨n - 16, μ[n - 16], by omega, h, List.getElem?_eq_getElem hlt2, ?_⟩
          have := hsE_f (μ := μ) h8' (n - 16)
          rw [show 16 + (n - 16) = n by omega] at this
          rw [this]; exact List.getElem?_eq_getElem hlt2
      have hν : ∀ i n, nuX (hsE wos'.length μ) i = some n → ∀ bl, β1 n = some bl → β' i = some bl := by
        intro i n hi bl hb
        have hsome : ∃ o, postOb wos' fos i = some o := by
          have hge : ¬ i < 8 := by intro h; unfold nuX at hi; rw [if_pos h] at hi; cases hi
          by_cases h16 : i < 16
          · by_cases hlt : i - 8 < wos'.length
            · have := hpw (i - 8) hlt
              rw [show 8 + (i - 8) = i by omega] at this
              exact ⟨_, this.trans (List.getElem?_eq_getElem hlt)⟩
            · have := hsE_p (μ := μ) h8' (i - 8) (by omega) (by omega)
              rw [show 8 + (i - 8) = i by omega, hi] at this
              cases this
              rw [hβ7] at hb; cases hb
          · have h1 := hsE_f (μ := μ) h8' (i - 16)
            rw [show 16 + (i - 16) = i by omega, hi] at h1
            have hlt : i - 16 < fos.length := by have := (List.getElem?_eq_some_iff.1 h1.symm).1; omega
            have := hpf (i - 16)
            rw [show 16 + (i - 16) = i by omega] at this
            exact ⟨_, this.trans (List.getElem?_eq_getElem hlt)⟩
        obtain ⟨o, ho⟩ := hsome
        simp only [β', ho, hi, Option.bind_some, hb]
      have hVf : (false = true → ∀ n, (hsE wos'.length μ).contains n = false → ∀ b ∈ φ1 n, I1 b) := by simp
      have hget2 : ∀ (i : Nat) v, avs[i]? = some v → ∃ y, ys[i]? = some y ∧ Rv w' I1 β1 v y := hget
      have hχm : ∀ n b, b ∈ χ' n → ∃ o m, postOb wos' fos n = some o ∧ o ≠ .dead ∧ nuX (hsE wos'.length μ) n = some m ∧ b ∈ φ1 m := by
        intro n b hb
        simp only [χ'] at hb
        split at hb
        · simp at hb
        · rename_i o hne ho
          split at hb
          · rename_i m hm
            exact ⟨o, m, ho, fun e => hne (by rw [← e]), hm, hb⟩
          · simp at hb
        · simp at hb
      refine ⟨hC1.dfr, (if ys.length = 1 then ys.getD 0 undef else .tuple ⟨ys⟩), ?_, _, I1, β', χ', rfl, hC1.evo, hC1.imm0, ?_, ?_, ?_, ?_, ?_, ?_, ?_⟩
      · rw [results_eq, Sem.run_bind, Array.mapM_eq_mapM_toList, Sem.run_map', hrun]
        simp only [Result.andThen_ok, Sem.run_pure]
        congr 1
        match ys with
        | [] => rfl
        | [y] => rfl
        | y :: z :: l => rfl
      · intro b hb
        rcases hC1.immNew b hb with h1 | h1
        · exact .inl h1
        · exact .inr ⟨h1, hC1.immLt b hb⟩
      · rcases axRs_two hr' with ⟨v, rfl, hm⟩ | ⟨hne, rs, rfl, hm⟩
        · obtain ⟨y, h1, h2⟩ := hget2 0 v rfl
          have hl1 : ys.length = 1 := by simpa using hyl
          rw [if_pos hl1]
          have : ys.getD 0 undef = y := by simp [List.getD, h1]
          rw [this]
          exact Rv2_Rv _ _ (ax2_sound hC1.ob (fun _ h => h) hVf hν hZ v r hm (Rv_Rv2 _ _ (ax2_notup hm) h2))
        · rw [if_neg (by omega)]
          refine ⟨ys, rfl, ax2s_sound hC1.ob (fun _ h => h) hVf hν hZ avs rs hm (Rv2s_get _ _ hyl.symm fun i v hv => ?_)⟩
          obtain ⟨y, h1, h2⟩ := hget2 i v hv
          exact ⟨y, h1, Rv_Rv2 _ _ (fun vs => ax2s_noTup _ _ hm v (List.mem_of_getElem? hv) vs) h2⟩
      · intro n bl hb
        cases hp0 : postOb wos [] n with
        | none => rw [(hn n hp0).1] at hb; cases hb
        | some o =>
          unfold postOb at hp0
          split at hp0
          · split at hp0
            · cases hp0
            · have hlt : n - 8 < wos'.length := by have := (List.getElem?_eq_some_iff.1 hp0).1; omega
              have h1 := hsE_w (μ := μ) h8' (n - 8) hlt
              rw [show 8 + (n - 8) = n by omega] at h1
              exact hν n n h1 bl (hC1.bet n bl hb)
          · simp at hp0
      · intro n hnn
        simp [β', χ', hnn]
      · intro n o hno
        rcases hpcase n o hno with ⟨i, h1, h2, h3, h4⟩ | ⟨k, m, h1, h2, h3, h4⟩
        · obtain ⟨p, g1, g2⟩ := axW_get 0 wos' hw' i o h3
          rw [show 8 + (0 + i) = 8 + i by omega] at g1
          rcases g2 with rfl | g2
          · show χ' n = []
            simp only [χ', hno]
          · have hd : o ≠ .dead := by rintro rfl; cases p <;> exact g2.elim
            have : χ' n = φ1 (8 + i) := by
              simp only [χ', hno, h4]
              all_goals (cases o <;> first | rfl | exact (hd rfl).elim)
            rw [this]
            exact axO_RO hC1 (fun _ h => h) hVf hν hZ h4 g1 g2
        · obtain ⟨-, hfg⟩ := axOs_get _ _ hf'
          obtain ⟨m', p, g1, g2, g3⟩ := hfg k o h2
          rw [h3] at g1; cases g1
          have hd : o ≠ .dead := by rintro rfl; cases p <;> exact g3.elim
          have : χ' n = φ1 m := by
            simp only [χ', hno, h4]
            all_goals (cases o <;> first | rfl | exact (hd rfl).elim)
          rw [this]
          exact axO_RO hC1 (fun _ h => h) hVf hν hZ h4 g2 g3
      · intro n m hnm b hb hb'
        obtain ⟨o, k, g1, g2, g3, g4⟩ := hχm n b hb
        obtain ⟨o', l, f1, f2, f3, f4⟩ := hχm m b hb'
        refine hC1.sep k l ?_ b g4 f4
        rintro rfl
        rcases hpcase n o g1 with ⟨i, h1, h2, h3, h4⟩ | ⟨i, q, h1, h2, h3, h4⟩
        · rw [g3] at h4; cases h4
          rcases hpcase m o' f1 with ⟨j, k1, k2, k3, k4⟩ | ⟨j, q, k1, k2, k3, k4⟩
          · rw [f3] at k4
            have : 8 + i = 8 + j := Option.some.inj k4
            exact hnm (by omega)
          · rw [f3] at k4; cases k4
            exact hμd i o h3 g2 (List.mem_of_getElem? k3)
        · rw [g3] at h4; cases h4
          rcases hpcase m o' f1 with ⟨j, k1, k2, k3, k4⟩ | ⟨j, q, k1, k2, k3, k4⟩
          · rw [f3] at k4; cases k4
            exact hμd j o' k3 f2 (List.mem_of_getElem? h3)
          · rw [f3] at k4; cases k4
            obtain ⟨p1, p2⟩ := List.getElem?_eq_some_iff.1 h3
            obtain ⟨q1, q2⟩ := List.getElem?_eq_some_iff.1 k3
            have := (List.getElem_inj hμn).1 (p2.trans q2.symm)
            exact hnm (by omega)
      · intro n b hb
        obtain ⟨o, k, g1, g2, g3, g4⟩ := hχm n b hb
        have := hC1.flt k b g4
        refine ⟨hC1.nimm k b g4, this.1, ?_⟩
        rcases this.2 with h | h | h
        · exact .inl h
        · exact h.elim
        · exact .inr h
    cases e with
    | normal => exact key hq
    | ret => exact key hq
    | exit i => obtain ⟨s, h1, h2⟩ := hq; exact h1.elim
    | _ => exact hq.elim
end Go.Proofs.Ytpaccfeiaekacaa.Vs

import Derived.Test.YtpaccfeiaekacaaVsQ
namespace Go.Proofs.Ytpaccfeiaekacaa.Vs
set_option linter.unusedVariables false
set_option linter.unusedSimpArgs false
set_option linter.unusedSectionVars false
set_option linter.unnecessarySimpa false
set_option linter.all false
open Go.RowKit
variable {P : Program}
def nuOf (rns wns : List Nat) (i : Nat) : Option Nat := if i < 8 then rns[i]? else wns[i - 8]?
def zipW : List Nat → List (List AV) → Ups
  | n :: ns, cs :: css => (n, .cells cs) :: zipW ns css
  | _, _ => []
/-- The objects that are handed in to be read. -/
def objsR (st : St) (ν : Nat → Option Nat) : List Nat → List (List AV) → Prop
  | [], l => l = []
  | n :: ns, cs' :: css => (∃ cs, (st.ob n = some (.cells cs) ∨ st.ob n = some (.rocells cs)) ∧ am1s st ν cs cs') ∧ objsR st ν ns css
  | _ :: _, [] => False
/-- The objects that are handed in to be written. -/
def objsW (st : St) (ν : Nat → Option Nat) : List Nat → List (List AV) → Prop
  | [], l => l = []
  | n :: ns, cs' :: css => (∃ cs, st.ob n = some (.cells cs) ∧ am1s st ν cs cs') ∧ objsW st ν ns css
  | _ :: _, [] => False
/-- The rows that objects' cells name. -/
def cellN (st : St) : List Nat → List Nat
  | [] => []
  | n :: r => match st.ob n with
    | some (.cells cs) => arrN1 cs ++ cellN st r
    | some (.rocells cs) => arrN1 cs ++ cellN st r
    | _ => cellN st r
/-- A call, by a contract. -/
def GStep (P : Program) (st : St) (f : FuncId) (actual : List AV) (v : AV) (u : Ups) : Prop :=
  ∃ (rns wns : List Nat) (args' : List AV) (ros wos wos' : List (List AV)), GCall P f args' ros wos v wos' ∧ rns.length = ros.length ∧ wns.length = wos.length ∧ wos'.length = wos.length ∧ ros.length ≤ 8 ∧ (rns ++ wns).Nodup ∧
    am2s st (nuOf rns wns) actual args' ∧ objsR st (nuOf rns wns) rns ros ∧ objsW st (nuOf rns wns) wns wos ∧
    u = (if scal v && wos'.all (fun cs => cs.all scal1) then [] else frzU st (arrN2 actual ++ cellN st (rns ++ wns))) ++ zipW wns wos'
section
variable {C : Cx} {st : St} {a : Act} {w : World} {I : Nat → Prop} {β : Beta} {φ : Nat → List Nat}
theorem am0_ob {st st2 : St} {ν : Nat → Option Nat} (h : ∀ n sz ys, (st.ob n = some (.flat sz ys) ∨ st.ob n = some (.shared sz ys)) → (st2.ob n = some (.flat sz ys) ∨ st2.ob n = some (.shared sz ys))) (a a' : AV) (hm : am0 st ν a a') : am0 st2 ν a a' := by
  unfold am0 at hm ⊢
  split at hm
  · exact hm
  · obtain ⟨ys, h1, h2⟩ := hm; exact ⟨ys, h _ _ _ h1, h2⟩
  · exact hm
  · exact hm
  · exact hm
  · exact hm
  · exact hm
  · trivial
  · exact hm.elim
theorem am0s_ob {st st2 : St} {ν : Nat → Option Nat} (h : ∀ n sz ys, (st.ob n = some (.flat sz ys) ∨ st.ob n = some (.shared sz ys)) → (st2.ob n = some (.flat sz ys) ∨ st2.ob n = some (.shared sz ys))) : ∀ (l l' : List AV), am0s st ν l l' → am0s st2 ν l l'
  | [], _, hm => hm
  | _ :: _, [], hm => hm
  | a :: as, a' :: as', hm => ⟨am0_ob h a a' hm.1, am0s_ob h as as' hm.2⟩
theorem am1_ob {st st2 : St} {ν : Nat → Option Nat} (h : ∀ n sz ys, (st.ob n = some (.flat sz ys) ∨ st.ob n = some (.shared sz ys)) → (st2.ob n = some (.flat sz ys) ∨ st2.ob n = some (.shared sz ys))) (a a' : AV) (hm : am1 st ν a a') : am1 st2 ν a a' := by
  unfold am1 at hm ⊢
  split at hm
  · exact ⟨hm.1, am0s_ob h _ _ hm.2.1, am0s_ob h _ _ hm.2.2⟩
  · exact am0_ob h _ _ hm
theorem am1s_ob {st st2 : St} {ν : Nat → Option Nat} (h : ∀ n sz ys, (st.ob n = some (.flat sz ys) ∨ st.ob n = some (.shared sz ys)) → (st2.ob n = some (.flat sz ys) ∨ st2.ob n = some (.shared sz ys))) : ∀ (l l' : List AV), am1s st ν l l' → am1s st2 ν l l'
  | [], _, hm => hm
  | _ :: _, [], hm => hm
  | a :: as, a' :: as', hm => ⟨am1_ob h a a' hm.1, am1s_ob h as as' hm.2⟩
theorem am2_ob {st st2 : St} {ν : Nat → Option Nat} (h : ∀ n sz ys, (st.ob n = some (.flat sz ys) ∨ st.ob n = some (.shared sz ys)) → (st2.ob n = some (.flat sz ys) ∨ st2.ob n = some (.shared sz ys))) (a a' : AV) (hm : am2 st ν a a') : am2 st2 ν a a' := by
  unfold am2 at hm ⊢
  split at hm
  · exact hm.elim
  · exact am1s_ob h _ _ hm
  · exact am1_ob h _ _ hm
theorem am2s_ob {st st2 : St} {ν : Nat → Option Nat} (h : ∀ n sz ys, (st.ob n = some (.flat sz ys) ∨ st.ob n = some (.shared sz ys)) → (st2.ob n = some (.flat sz ys) ∨ st2.ob n = some (.shared sz ys))) : ∀ (l l' : List AV), am2s st ν l l' → am2s st2 ν l l'
  | [], _, hm => hm
  | _ :: _, [], hm => hm
  | a :: as, a' :: as', hm => ⟨am2_ob h a a' hm.1, am2s_ob h as as' hm.2⟩
theorem am1s_len {st : St} {ν : Nat → Option Nat} : ∀ (l l' : List AV), am1s st ν l l' → l'.length = l.length ∧ ∀ (j : Nat) c, l'[j]? = some c → ∃ d, l[j]? = some d ∧ am1 st ν d c
  | [], _, hm => by cases hm; simp
  | _ :: _, [], hm => hm.elim
  | a :: as, a' :: as', hm => by
    obtain ⟨h1, h2⟩ := am1s_len as as' hm.2
    refine ⟨by simp [h1], fun j c hc => ?_⟩
    cases j with
    | zero => simp at hc; subst hc; exact ⟨a, rfl, hm.1⟩
    | succ j => simpa using h2 j c (by simpa using hc)
theorem arrN1_mem : ∀ (l : List AV) (j : Nat) (d : AV), l[j]? = some d → ∀ n ∈ arrN1 [d], n ∈ arrN1 l
  | [], _, _, h, _, _ => by simp at h
  | c :: cs, 0, d, h, n, hn => by
    simp at h; subst h
    cases c <;> simp [arrN1] at hn ⊢
    · exact .inl hn
    · rcases hn with h | h <;> simp [h]
  | c :: cs, j + 1, d, h, n, hn => by
    have := arrN1_mem cs j d (by simpa using h) n hn
    cases c <;> simp [arrN1, this]
theorem objsR_get {st : St} {ν : Nat → Option Nat} : ∀ (ns : List Nat) (css : List (List AV)), objsR st ν ns css → ∀ (i : Nat) cs', css[i]? = some cs' → ∃ n cs, ns[i]? = some n ∧ (st.ob n = some (.cells cs) ∨ st.ob n = some (.rocells cs)) ∧ am1s st ν cs cs'
  | [], _, h, i, cs', hi => by cases h; simp at hi
  | _ :: _, [], h, _, _, _ => h.elim
  | n :: ns, c :: css, h, i, cs', hi => by
    cases i with
    | zero => simp at hi; subst hi; obtain ⟨cs, h1, h2⟩ := h.1; exact ⟨n, cs, rfl, h1, h2⟩
    | succ i => simpa using objsR_get ns css h.2 i cs' (by simpa using hi)
theorem objsW_get {st : St} {ν : Nat → Option Nat} : ∀ (ns : List Nat) (css : List (List AV)), objsW st ν ns css → ∀ (i : Nat) cs', css[i]? = some cs' → ∃ n cs, ns[i]? = some n ∧ st.ob n = some (.cells cs) ∧ am1s st ν cs cs'
  | [], _, h, i, cs', hi => by cases h; simp at hi
  | _ :: _, [], h, _, _, _ => h.elim
  | n :: ns, c :: css, h, i, cs', hi => by
    cases i with
    | zero => simp at hi; subst hi; obtain ⟨cs, h1, h2⟩ := h.1; exact ⟨n, cs, rfl, h1, h2⟩
    | succ i => simpa using objsW_get ns css h.2 i cs' (by simpa using hi)
theorem cellN_mem {st : St} : ∀ (ns : List Nat) (n : Nat) (cs : List AV), n ∈ ns → (st.ob n = some (.cells cs) ∨ st.ob n = some (.rocells cs)) → ∀ m ∈ arrN1 cs, m ∈ cellN st ns
  | [], _, _, h, _, _, _ => by simp at h
  | k :: ns, n, cs, h, ho, m, hm => by
    unfold cellN
    by_cases hk : n = k
    · subst hk
      rcases ho with ho | ho <;> rw [ho] <;> simp [hm]
    · have := cellN_mem ns n cs (by simpa [hk] using h) ho m hm
      split <;> simp [this]
theorem scal1_Rv {w w' : World} {I I' : Nat → Prop} {β β' : Beta} : ∀ (c : AV) (v : Value), scal1 c = true → Rv1 w I β c v → Rv1 w' I' β' c v
  | .g _, _, _, h => h
  | .s _, _, _, h => h
  | .agg .., _, h, _ | .sl .., _, h, _ | .ot .., _, h, _ | .arr .., _, h, _ | .ptr .., _, h, _ | .eptr .., _, h, _ | .ip .., _, h, _ | .fn .., _, h, _ | .tup .., _, h, _ | .undef, _, h, _ => by simp [scal1] at h
theorem scal1s_Rv {w w' : World} {I I' : Nat → Prop} {β β' : Beta} : ∀ (l : List AV) (vs : List Value), l.all scal1 = true → Rv1s w I β l vs → Rv1s w' I' β' l vs
  | [], _, _, h => h
  | c :: cs, _, h, ⟨v, vs', h1, h2, h3⟩ => by simp at h; exact ⟨v, vs', h1, scal1_Rv c v h.1 h2, scal1s_Rv cs vs' (by simpa using h.2) h3⟩
theorem scal2_Rv {w w' : World} {I I' : Nat → Prop} {β β' : Beta} (c : AV) (v : Value) (h : scal2 c = true) (hr : Rv2 w I β c v) : Rv2 w' I' β' c v := by
  cases c with
  | agg cs => obtain ⟨vs, h1, h2⟩ := hr; exact ⟨vs, h1, scal1s_Rv cs vs h h2⟩
  | g _ => exact hr
  | s _ => exact hr
  | _ => simp [scal2, scal1] at h
theorem scal2s_Rv {w w' : World} {I I' : Nat → Prop} {β β' : Beta} : ∀ (l : List AV) (vs : List Value), l.all scal2 = true → Rv2s w I β l vs → Rv2s w' I' β' l vs
  | [], _, _, h => h
  | c :: cs, _, h, ⟨v, vs', h1, h2, h3⟩ => by simp at h; exact ⟨v, vs', h1, scal2_Rv c v h.1 h2, scal2s_Rv cs vs' (by simpa using h.2) h3⟩
theorem scal_Rv {w w' : World} {I I' : Nat → Prop} {β β' : Beta} (c : AV) (v : Value) (h : scal c = true) (hr : Rv w I β c v) : Rv w' I' β' c v := by
  cases c with
  | tup cs => obtain ⟨vs, h1, h2⟩ := hr; exact ⟨vs, h1, scal2s_Rv cs vs h h2⟩
  | agg cs => exact scal2_Rv (.agg cs) v h hr
  | g _ => exact hr
  | s _ => exact hr
  | _ => simp [scal, scal2, scal1] at h
theorem zipW_get : ∀ (ns : List Nat) (css : List (List AV)) (ob : Nat → Option OB), ns.Nodup → ns.length = css.length → (∀ (i n : Nat) cs, ns[i]? = some n → css[i]? = some cs → updL ob (zipW ns css) n = some (.cells cs)) ∧ ∀ n, n ∉ ns → updL ob (zipW ns css) n = ob n
  | [], [], ob, _, _ => by simp [zipW, updL]
  | n :: ns, cs :: css, ob, hnd, hl => by
    simp at hnd
    obtain ⟨h1, h2⟩ := zipW_get ns css (upd ob n (some (.cells cs))) hnd.2 (by simpa using hl)
    rw [zipW, updL_cons]
    constructor
    · intro i m c hm hc
      cases i with
      | zero =>
        simp at hm hc; subst hm; subst hc
        rw [h2 _ hnd.1, upd_same]
      | succ i => exact h1 i m c (by simpa using hm) (by simpa using hc)
    · intro m hm
      simp at hm
      rw [h2 m hm.2, upd_other _ _ hm.1]
end
end Go.Proofs.Ytpaccfeiaekacaa.Vs

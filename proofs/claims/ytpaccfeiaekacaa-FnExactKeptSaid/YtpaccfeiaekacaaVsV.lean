import Derived.Test.YtpaccfeiaekacaaVsU
namespace Go.Proofs.Ytpaccfeiaekacaa.Vs
set_option linter.unusedVariables false
set_option linter.unusedSimpArgs false
set_option linter.unusedSectionVars false
set_option linter.unnecessarySimpa false
set_option linter.all false
open Go.RowKit
variable {P : Program}
/-- The walk's post, of the machine's. -/
def QQ (C : Cx) (Q : AExit → St → Prop) : Exit → Act → World → Prop
  | .normal, a, w => ∃ st, Q .normal st ∧ CC C st a w
  | .exit i, a, w => ∃ st, Q (.exit i) st ∧ CC C st a w
  | .ret, a, w => ∃ st, Q .ret st ∧ CC C st a w
  | _, _, _ => False
/-- A piece of code, walked from a state on. nt: the frame's slots; fs: the formal objects' names. -/
def AW (P : Program) (nt : Nat) (fs : List Nat) (c : Code) (Q : AExit → St → Prop) (st : St) : Prop :=
  ∀ C a w, C.nt = nt → (∀ n, C.β0 n ≠ none → n ∈ fs) → CC C st a w → c.wp P (QQ C Q) a w
section
variable {nt : Nat} {fs : List Nat} {Q : AExit → St → Prop} {st : St}
theorem AW_mono {c : Code} {Q' : AExit → St → Prop} (h : AW P nt fs c Q st) (hq : ∀ e s, Q e s → Q' e s) : AW P nt fs c Q' st := by
  intro C a w hn hf hC
  refine wp_mono (h C a w hn hf hC) ?_
  intro e a w hh
  cases e <;> first | exact hh.elim | (obtain ⟨s, h1, h2⟩ := hh; exact ⟨s, hq _ _ h1, h2⟩)
theorem AW_skip (h : Q .normal st) : AW P nt fs .skip Q st := fun _ _ _ _ _ hC => wp_skip ⟨st, h, hC⟩
theorem AW_label {l : Nat} (h : Q .normal st) : AW P nt fs (.label l) Q st := fun _ _ _ _ _ hC => wp_label ⟨st, h, hC⟩
theorem AW_exit {i : Nat} (h : Q (.exit i) st) : AW P nt fs (.exit i) Q st := fun _ _ _ _ _ hC => wp_exit ⟨st, h, hC⟩
theorem AW_ret (h : Q .ret st) : AW P nt fs .ret Q st := fun _ _ _ _ _ hC => wp_ret ⟨st, h, hC⟩
/-- What stands behind a piece. -/
def thenQ (P : Program) (nt : Nat) (fs : List Nat) (y : Code) (Q : AExit → St → Prop) : AExit → St → Prop
  | .normal, s => AW P nt fs y Q s
  | e, s => Q e s
theorem AW_seq {x y : Code} (h : AW P nt fs x (thenQ P nt fs y Q) st) : AW P nt fs (.seq x y) Q st := by
  intro C a w hn hf hC
  refine wp_seq (wp_mono (h C a w hn hf hC) ?_)
  intro e a w hh
  cases e with
  | normal => obtain ⟨s, h1, h2⟩ := hh; exact h1 C a w hn hf h2
  | exit i => obtain ⟨s, h1, h2⟩ := hh; exact ⟨s, h1, h2⟩
  | ret => obtain ⟨s, h1, h2⟩ := hh; exact ⟨s, h1, h2⟩
  | _ => exact hh.elim
theorem AW_cond {c : Operand} {x y : Code} {t : Bool} (hc : ev st c = .g (.bool t)) (h1 : t = true → AW P nt fs x Q st) (h2 : t = false → AW P nt fs y Q st) : AW P nt fs (.cond c x y) Q st := by
  intro C a w hn hf hC
  obtain ⟨I, β, φ, hc'⟩ := id hC
  have he := Rv_eval hc'.env c
  rw [hc] at he
  exact wp_cond_split he (fun ht => h1 ht C a w hn hf hC) (fun ht => h2 ht C a w hn hf hC)
theorem AW_cond_true {c : Operand} {x y : Code} (hc : ev st c = .g (.bool true)) (h1 : AW P nt fs x Q st) : AW P nt fs (.cond c x y) Q st := AW_cond hc (fun _ => h1) (by simp)
theorem AW_cond_false {c : Operand} {x y : Code} (hc : ev st c = .g (.bool false)) (h1 : AW P nt fs y Q st) : AW P nt fs (.cond c x y) Q st := AW_cond hc (by simp) (fun _ => h1)
def blockQ (id : Nat) (Q : AExit → St → Prop) : AExit → St → Prop
  | .exit i, s => bif i == id then Q .normal s else Q (.exit i) s
  | e, s => Q e s
theorem AW_block {i : Nat} {c : Code} (h : AW P nt fs c (blockQ i Q) st) : AW P nt fs (.block i c) Q st := by
  intro C a w hn hf hC
  refine wp_block (wp_mono (h C a w hn hf hC) ?_)
  intro e a w hh
  cases e with
  | normal => exact hh
  | exit j =>
    obtain ⟨s, h1, h2⟩ := hh
    by_cases hj : j = i
    · subst hj; simp only [blockQ, Exit.inBlock, if_true, beq_self_eq_true, cond_true] at h1 ⊢; exact ⟨s, h1, h2⟩
    · have hb : (j == i) = false := by simpa using hj
      simp only [blockQ, Exit.inBlock, if_neg hj, hb, cond_false] at h1 ⊢; exact ⟨s, h1, h2⟩
  | ret => exact hh
  | _ => exact hh.elim
def dstOk (nt : Nat) (ops : Array Oper) : Bool := ops.toList.all fun o => match o.dst with | some d => decide (d < nt) | none => true
theorem dstOk_spec {ops : Array Oper} (h : dstOk nt ops = true) : ∀ o ∈ ops.toList, ∀ d, o.dst = some d → d < nt := by
  intro o ho d hd
  have := List.all_eq_true.1 h o ho
  rw [hd] at this
  simpa using this
theorem AW_region {id : Nat} {l : List Oper} (hd : dstOk nt l.toArray = true) (h : areg P l.toArray l st (Q .normal)) : AW P nt fs (.region id l.toArray false) Q st := by
  intro C a w hn hf hC
  subst hn
  exact wp_region_lit (areg_sound l st a w (by simpa using dstOk_spec hd) h hC fun st' a' w' hq hc => ⟨st', hq, hc⟩)
theorem AW_freeze {c : Code} (Z : List Nat) (h : AW P nt fs c Q { st with ob := updL st.ob (frzU st Z) }) : AW P nt fs c Q st := by
  intro C a w hn hf hC
  obtain ⟨I, β, φ, hC⟩ := hC
  obtain ⟨I', φ', -, hC'⟩ := frz_sound (st := st) Z st I φ (fun n => .inl rfl) hC
  exact h C a w hn hf ⟨I', β, φ', hC'⟩
/-- A state that is written out stands for one of which more is known. -/
def Fold (fs : List Nat) (st : St) (K : List (Nat × AV) → List (Nat × OB) → Prop) : Prop :=
  ∃ Z ρ e os, LeSt fs { st with ob := updL st.ob (frzU st Z) } ρ e os ∧ K e os
theorem Fold.sound {C : Cx} {a : Act} {w : World} {K : List (Nat × AV) → List (Nat × OB) → Prop} (h : Fold fs st K) (hf : ∀ n, C.β0 n ≠ none → n ∈ fs) (hC : CC C st a w) : ∃ e os, K e os ∧ CC C (mkSt e os) a w := by
  obtain ⟨Z, ρ, e, os, h1, h2⟩ := h
  obtain ⟨I, β, φ, hC⟩ := hC
  obtain ⟨I', φ', -, hC'⟩ := frz_sound (st := st) Z st I φ (fun n => .inl rfl) hC
  exact ⟨e, os, h2, LeSt.sound hC' hf h1⟩
/-- The walk goes on from a state that is written out. -/
theorem AW_fold {c : Code} (h : Fold fs st fun e os => AW P nt fs c Q (mkSt e os)) : AW P nt fs c Q st := by
  intro C a w hn hf hC
  obtain ⟨e, os, h1, h2⟩ := h.sound hf hC
  exact h1 C a w hn hf h2
/-- Behind a piece the ways meet: J holds of each state. -/
def cutQ (fs : List Nat) (J : List (Nat × AV) → List (Nat × OB) → Prop) (Q : AExit → St → Prop) : AExit → St → Prop
  | .normal, s => Fold fs s J
  | e, s => Q e s
theorem AW_cut {x y : Code} (J : List (Nat × AV) → List (Nat × OB) → Prop) (h1 : AW P nt fs x (cutQ fs J Q) st) (h2 : ∀ e os, J e os → AW P nt fs y Q (mkSt e os)) : AW P nt fs (.seq x y) Q st := by
  intro C a w hn hf hC
  refine wp_seq (wp_mono (h1 C a w hn hf hC) ?_)
  intro e a w hh
  cases e with
  | normal =>
    obtain ⟨s, g1, g2⟩ := hh
    obtain ⟨e, os, g3, g4⟩ := Fold.sound (show Fold fs s J from g1) hf g2
    exact h2 e os g3 C a w hn hf g4
  | exit i => obtain ⟨s, h1, h2⟩ := hh; exact ⟨s, h1, h2⟩
  | ret => obtain ⟨s, h1, h2⟩ := hh; exact ⟨s, h1, h2⟩
  | _ => exact hh.elim
/-- Behind a round: a state of the loop's again, with a smaller measure. -/
def loopQ (fs : List Nat) (J : Nat → List (Nat × AV) → List (Nat × OB) → Prop) (m : Nat) (Q : AExit → St → Prop) : AExit → St → Prop
  | .normal, s => Fold fs s fun e os => ∃ m', m' < m ∧ J m' e os
  | e, s => Q e s
/-- A loop: J m: the states at a round's head, m the measure. -/
theorem AW_loop {c : Code} (J : Nat → List (Nat × AV) → List (Nat × OB) → Prop) (h0 : Fold fs st fun e os => ∃ m, J m e os) (h1 : ∀ m e os, J m e os → AW P nt fs c (loopQ fs J m Q) (mkSt e os)) :
    AW P nt fs (.loop c) Q st := by
  intro C a w hn hf hC
  obtain ⟨e, os, ⟨m, hJ⟩, h2⟩ := h0.sound hf hC
  clear hC h0
  -- the measure is not a function of the frame: the rounds by induction on it
  have key : ∀ m e os a w, J m e os → CC C (mkSt e os) a w → ∀ (b : Frame) (k : List Item) (cs : List Frame),
      ∃ x a' w', QQ C Q x a' w' ∧ Arrives P (lone (b.at a (.code c :: .inLoop c :: k)) cs w) b k cs x a' w' := by
    intro m
    induction m using Nat.strongRecOn with
    | _ m ih =>
      intro e os a w hJ hC b k cs
      obtain ⟨x, a₁, w₁, hq, harr⟩ := h1 m e os hJ C a w hn hf hC b (.inLoop c :: k) cs
      cases x with
      | normal =>
        obtain ⟨s, g1, g2⟩ := hq
        obtain ⟨e', os', ⟨m', g3, g4⟩, g5⟩ := Fold.sound (show Fold fs s _ from g1) hf g2
        obtain ⟨x₂, a₂, w₂, hq₂, harr₂⟩ := ih m' g3 e' os' a₁ w₁ g4 g5 b k cs
        exact ⟨x₂, a₂, w₂, hq₂, .of_steps (Steps.trans harr (.one step_inLoop)) harr₂⟩
      | exit i => obtain ⟨s, g1, g2⟩ := hq; exact ⟨.exit i, a₁, w₁, ⟨s, g1, g2⟩, .pass (x := .inLoop c) rfl (fun _ _ => .inl (by simp)) harr⟩
      | ret => obtain ⟨s, g1, g2⟩ := hq; exact ⟨.ret, a₁, w₁, ⟨s, g1, g2⟩, .pass (x := .inLoop c) rfl (fun _ _ => .inl (by simp)) harr⟩
      | goto l => exact hq.elim
      | panic ch => exact hq.elim
      | outgrown => exact hq.elim
  intro b k cs
  obtain ⟨x, a', w', hq, harr⟩ := key m e os a w hJ h2 b k cs
  exact ⟨x, a', w', hq, .of_steps (.one step_loop) harr⟩
end
/-- What a result reads as. -/
def resOne (P : Program) (st : St) : ResultVar → ARes
  | .tmp t => some (True, st.env t, [])
  | .cell t T => aLoad P st T (st.env t)
def resAll (P : Program) (st : St) : List ResultVar → Option (Prop × List AV)
  | [] => some (True, [])
  | r :: rs => match resOne P st r, resAll P st rs with
    | some (p, v, _), some (q, vs) => some (p ∧ q, v :: vs)
    | _, _ => none
/-- A value that is handed back, as the caller sees it. -/
def amR (st : St) (v r : AV) : Prop := am2 st (fun _ => none) v r
def amRs (st : St) : List AV → AV → Prop
  | [v], r => amR st v r
  | vs, .tup rs => am2s st (fun _ => none) vs rs
  | _, _ => False
/-- The objects that were handed in to be written, behind the call. -/
def wosOk (st : St) : Nat → List (List AV) → Prop
  | _, [] => True
  | i, cs' :: r => (match st.ob (8 + i) with
    | some (.cells cs) => am1s st (fun _ => none) cs cs'
    | _ => False) ∧ wosOk st (i + 1) r
/-- The function's end. -/
def endQ (P : Program) (rs : List ResultVar) (r : AV) (wos' : List (List AV)) (st : St) : Prop :=
  ∃ p vs, resAll P st rs = some (p, vs) ∧ p ∧ amRs st vs r ∧ wosOk st 0 wos'
def retQ (P : Program) (rs : List ResultVar) (r : AV) (wos' : List (List AV)) : AExit → St → Prop
  | .normal, s => endQ P rs r wos' s
  | .ret, s => endQ P rs r wos' s
  | _, _ => False
def formOb (ros wos : List (List AV)) (n : Nat) : Option OB :=
  if n < 8 then (ros[n]?).map .rocells else (wos[n - 8]?).map .cells
def st0 (args : List AV) (ros wos : List (List AV)) : St := { env := fun n => args.getD n .undef, ob := formOb ros wos }
def forms (nr nw : Nat) : List Nat := List.range nr ++ (List.range nw).map (8 + ·)
end Go.Proofs.Ytpaccfeiaekacaa.Vs

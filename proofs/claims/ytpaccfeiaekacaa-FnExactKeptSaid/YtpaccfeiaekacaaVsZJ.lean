import Derived.Test.YtpaccfeiaekacaaVsZI
namespace Go.Proofs.Ytpaccfeiaekacaa.Vs
set_option linter.unusedVariables false
set_option linter.unusedSimpArgs false
set_option linter.unusedSectionVars false
set_option linter.unnecessarySimpa false
set_option linter.all false
open Go.RowKit
variable {P : Program}
/-! ### Objects may be forgotten, and named anew -/
def renV2 (ρ : Ren) : AV → AV
  | .agg cs => .agg (cs.map (renV ρ))
  | v => renV ρ v
def renO (ρ : Ren) : OB → OB
  | .cells cs => .cells (cs.map (renV ρ))
  | .rocells cs => .rocells (cs.map (renV ρ))
  | o => o
def pl1 : AV → Bool
  | .fn .. => false
  | .tup _ => false
  | _ => true
def pl2 : AV → Bool
  | .agg cs => cs.all pl1
  | v => pl1 v
def plO : OB → Bool
  | .cells cs => cs.all pl1
  | .rocells cs => cs.all pl1
  | .dead => false
  | .win _ xs => scR xs
  | _ => true
def KpR (s : St) (ρ : Ren) : List (Nat × AV) → Prop
  | [] => True
  | (t, v) :: r => s.env t = renV2 ρ v ∧ KpR s ρ r
def KpOR (s : St) (ρ : Ren) : List (Nat × OB) → Prop
  | [] => True
  | (n, o) :: r => (∃ m, lk ρ n = some m ∧ s.ob m = some (renO ρ o)) ∧ KpOR s ρ r
section
variable {s : St} {ρ : Ren}
theorem le0_ren (v : AV) (h : pl1 v = true) : le0 s ρ (renV ρ v) v := by
  have key : ∀ a, a = renV ρ v → le0 s ρ a v := by
    intro a ha
    unfold le0
    split
    · trivial
    · subst_vars; simp [renV] at ha
    · subst_vars; simp [renV] at ha
    · exact ha
  exact key _ rfl
theorem le1_ren (v : AV) (h : pl1 v = true) : le1 s ρ (renV ρ v) v := by
  have := le0_ren (s := s) (ρ := ρ) v h
  unfold le1
  split
  · simp [pl1] at h
  · exact this
theorem le1s_ren : ∀ (cs : List AV), cs.all pl1 = true → le1s s ρ (cs.map (renV ρ)) cs
  | [], _ => rfl
  | c :: cs, h => by
    simp only [List.all_cons, Bool.and_eq_true] at h
    exact ⟨le1_ren c h.1, le1s_ren cs h.2⟩
theorem le2_ren (v : AV) (h : pl2 v = true) : le2 s ρ (renV2 ρ v) v := by
  cases v with
  | agg cs => exact le1s_ren cs h
  | tup _ => simp [pl2, pl1] at h
  | fn => simp [pl2, pl1] at h
  | arr n o l =>
    have := le1_ren (s := s) (ρ := ρ) (.arr n o l) rfl
    simp only [renV2, renV] at this ⊢
    cases h : lk ρ n <;> simp only [h] at this ⊢ <;> exact this
  | ptr n o =>
    have := le1_ren (s := s) (ρ := ρ) (.ptr n o) rfl
    simp only [renV2, renV] at this ⊢
    cases h : lk ρ n <;> simp only [h] at this ⊢ <;> exact this
  | eptr n o l =>
    have := le1_ren (s := s) (ρ := ρ) (.eptr n o l) rfl
    simp only [renV2, renV] at this ⊢
    cases h : lk ρ n <;> simp only [h] at this ⊢ <;> exact this
  | g v => exact le1_ren (s := s) (ρ := ρ) (.g v) rfl
  | s v => exact le1_ren (s := s) (ρ := ρ) (.s v) rfl
  | sl a b => exact le1_ren (s := s) (ρ := ρ) (.sl a b) rfl
  | ot a b => exact le1_ren (s := s) (ρ := ρ) (.ot a b) rfl
  | ip a => exact le1_ren (s := s) (ρ := ρ) (.ip a) rfl
  | undef => exact le1_ren (s := s) (ρ := ρ) .undef rfl
theorem leO_ren (o : OB) (h : plO o = true) : leO s ρ (renO ρ o) o := by
  cases o with
  | cells cs => exact le1s_ren cs h
  | rocells cs => exact le1s_ren cs h
  | flat _ _ => exact ⟨rfl, rfl⟩
  | shared _ _ => exact ⟨rfl, rfl⟩
  | dead => simp [plO] at h
  | win _ _ => exact ⟨rfl, rfl, h⟩
  | own _ _ => exact ⟨rfl, rfl⟩
  | park _ => rfl
end
/-- Objects that are kept; a row of the frame's own may become one that is written, or the other way. -/
def cvO : OB → OB → Prop
  | .flat sz xs, .win sz' xs' => sz' = sz ∧ xs' = xs
  | .flat sz xs, .own sz' xs' => sz' = sz ∧ xs' = xs ∧ scR xs = true
  | .win sz xs, .own sz' xs' => sz' = sz ∧ xs' = xs ∧ scR xs = true
  | .own sz xs, .win sz' xs' => sz' = sz ∧ xs' = xs ∧ scR xs = true
  | _, _ => False
def KpOX (s : St) (ρ : Ren) : List (Nat × OB) → Prop
  | [] => True
  | (n, o) :: r => (∃ m p, lk ρ n = some m ∧ s.ob m = some p ∧ ((p = renO ρ o ∧ plO o = true) ∨ cvO p o)) ∧ KpOX s ρ r
theorem LeS.kx {fs : List Nat} {s : St} (ρ : Ren) (e : List (Nat × AV)) (os : List (Nat × OB)) (he : KpR s ρ e) (ho : KpOX s ρ os) (hp : (e.all fun p => pl2 p.2) = true) (h1 : (ρ.map (·.1)).Nodup) (h2 : (ρ.map (·.2)).Nodup) (h3 : ρ.map (·.1) = os.map (·.1)) (hf : ∀ n ∈ fs, lk ρ n = some n) : LeS fs s { env := lkE e, ob := lk os } := by
  refine LeS.le (ρ := ρ) ⟨?_, ?_, h1, h2, h3, h3 ▸ h1, hf⟩
  · clear ho h3
    induction e with
    | nil => trivial
    | cons p e ih =>
      obtain ⟨t, v⟩ := p
      simp only [List.all_cons, Bool.and_eq_true] at hp
      refine ⟨?_, ih he.2 hp.2⟩
      rw [he.1]
      exact le2_ren v hp.1
  · clear he hp h3
    induction os with
    | nil => trivial
    | cons p r ih =>
      obtain ⟨n, o⟩ := p
      refine ⟨?_, ih ho.2⟩
      obtain ⟨m, q, g1, g2, g3⟩ := ho.1
      rw [g1]
      simp only
      rw [g2]
      rcases g3 with ⟨rfl, g3⟩ | g3
      · exact leO_ren o g3
      · cases q <;> cases o <;> first | exact g3.elim | exact g3
theorem LeS.kr {fs : List Nat} {s : St} (ρ : Ren) (e : List (Nat × AV)) (os : List (Nat × OB)) (he : KpR s ρ e) (ho : KpOR s ρ os) (hp : (e.all fun p => pl2 p.2) = true) (hq : (os.all fun p => plO p.2) = true) (h1 : (ρ.map (·.1)).Nodup) (h2 : (ρ.map (·.2)).Nodup) (h3 : ρ.map (·.1) = os.map (·.1)) (hf : ∀ n ∈ fs, lk ρ n = some n) : LeS fs s { env := lkE e, ob := lk os } := by
  refine LeS.le (ρ := ρ) ⟨?_, ?_, h1, h2, h3, h3 ▸ h1, hf⟩
  · clear ho hq h3
    induction e with
    | nil => trivial
    | cons p e ih =>
      obtain ⟨t, v⟩ := p
      simp only [List.all_cons, Bool.and_eq_true] at hp
      refine ⟨?_, ih he.2 hp.2⟩
      rw [he.1]
      exact le2_ren v hp.1
  · clear he hp h3
    induction os with
    | nil => trivial
    | cons p r ih =>
      obtain ⟨n, o⟩ := p
      simp only [List.all_cons, Bool.and_eq_true] at hq
      refine ⟨?_, ih ho.2 hq.2⟩
      obtain ⟨m, g1, g2⟩ := ho.1
      rw [g1]
      simp only
      rw [g2]
      exact leO_ren o hq.1
end Go.Proofs.Ytpaccfeiaekacaa.Vs

import Derived.Test.YtpaccfeiaekacaaVsDD
namespace Go.Proofs.Ytpaccfeiaekacaa.Vs
set_option linter.unusedVariables false
set_option linter.unusedSimpArgs false
set_option linter.unusedSectionVars false
set_option linter.unnecessarySimpa false
set_option linter.all false
open Go.RowKit
variable {P : Program}
/-! ### Objects may be forgotten -/
def nmIn (ns : List Nat) : AV → Bool
  | .arr n _ _ => ns.contains n
  | .ptr n _ => ns.contains n
  | .eptr n _ _ => ns.contains n
  | .fn .. => false
  | .tup _ => false
  | _ => true
def nmIn2 (ns : List Nat) : AV → Bool
  | .agg cs => cs.all (nmIn ns)
  | v => nmIn ns v
def nmInO (ns : List Nat) : OB → Bool
  | .cells cs => cs.all (nmIn ns)
  | .rocells cs => cs.all (nmIn ns)
  | .dead => false
  | .win _ xs => scR xs
  | _ => true
def KpO (s : St) : List (Nat × OB) → Prop
  | [] => True
  | (n, o) :: r => s.ob n = some o ∧ KpO s r
def idR (ns : List Nat) : Ren := ns.map fun n => (n, n)
theorem idR_fst (ns : List Nat) : (idR ns).map (·.1) = ns := by unfold idR; rw [List.map_map]; simp [Function.comp_def]
theorem idR_snd (ns : List Nat) : (idR ns).map (·.2) = ns := by unfold idR; rw [List.map_map]; simp [Function.comp_def]
theorem idR_lk : ∀ (ns : List Nat) (n : Nat), ns.contains n = true → lk (idR ns) n = some n
  | [], n, h => by simp at h
  | m :: ns, n, h => by
    show lk ((m, m) :: idR ns) n = some n
    unfold lk
    cases hm : n == m with
    | true => simp at hm; simp [hm]
    | false =>
      simp at hm
      have : ns.contains n = true := by
        simp at h ⊢
        rcases h with h | h
        · exact absurd h hm
        · exact h
      simpa using idR_lk ns n this
section
variable {s : St} {ns : List Nat}
theorem le0_refl : ∀ (v : AV), nmIn ns v = true → le0 s (idR ns) v v
  | .arr n o l, h => by
    have := idR_lk ns n h
    show AV.arr n o l = renV (idR ns) (.arr n o l)
    simp [renV, this]
  | .ptr n o, h => by
    have := idR_lk ns n h
    show AV.ptr n o = renV (idR ns) (.ptr n o)
    simp [renV, this]
  | .eptr n o l, h => by
    have := idR_lk ns n h
    show AV.eptr n o l = renV (idR ns) (.eptr n o l)
    simp [renV, this]
  | .g v, _ => by show le0 s (idR ns) (.g v) (.g v); unfold le0; split <;> simp_all [renV]
  | .s _, _ => rfl
  | .sl .., _ => rfl
  | .ip _, _ => rfl
  | .agg _, _ => rfl
  | .ot .., _ => rfl
  | .undef, _ => trivial
  | .fn .., h | .tup _, h => by simp [nmIn] at h
theorem le1_refl (v : AV) (h : nmIn ns v = true) : le1 s (idR ns) v v := by
  have := le0_refl (s := s) v h
  cases v with
  | fn => simp [nmIn] at h
  | _ => exact this
theorem le1s_refl : ∀ (cs : List AV), cs.all (nmIn ns) = true → le1s s (idR ns) cs cs
  | [], _ => rfl
  | c :: cs, h => by
    simp only [List.all_cons, Bool.and_eq_true] at h
    exact ⟨le1_refl c h.1, le1s_refl cs h.2⟩
theorem le2_refl (v : AV) (h : nmIn2 ns v = true) : le2 s (idR ns) v v := by
  cases v with
  | agg cs => exact le1s_refl cs h
  | tup _ => simp [nmIn2, nmIn] at h
  | _ => exact le1_refl (s := s) (ns := ns) _ (by simpa only [nmIn2] using h)
theorem leO_refl (o : OB) (h : nmInO ns o = true) : leO s (idR ns) o o := by
  cases o with
  | cells cs => exact le1s_refl cs h
  | rocells cs => exact le1s_refl cs h
  | flat _ _ => exact ⟨rfl, rfl⟩
  | shared _ _ => exact ⟨rfl, rfl⟩
  | dead => simp [nmInO] at h
  | win _ _ => exact ⟨rfl, rfl, h⟩
  | own _ _ => exact ⟨rfl, rfl⟩
  | park _ => rfl
end
def nmAll (e : List (Nat × AV)) (os : List (Nat × OB)) : Bool := e.all (fun p => nmIn2 (os.map (·.1)) p.2) && os.all (fun p => nmInO (os.map (·.1)) p.2)
theorem LeS.ko {fs : List Nat} {s : St} (e : List (Nat × AV)) (os : List (Nat × OB)) (he : KpE s e) (ho : KpO s os) (hn : nmAll e os = true) (hd : (os.map (·.1)).Nodup) (hf : fs.all (fun n => (os.map (·.1)).contains n) = true) : LeS fs s { env := lkE e, ob := lk os } := by
  simp only [nmAll, Bool.and_eq_true] at hn
  refine LeS.le (ρ := idR (os.map (·.1))) ⟨?_, ?_, ?_, ?_, ?_, hd, ?_⟩
  · have hn1 := hn.1
    clear hn
    generalize os.map (·.1) = ns at hn1 ⊢
    induction e with
    | nil => trivial
    | cons p e ih =>
      obtain ⟨t, v⟩ := p
      simp only [List.all_cons, Bool.and_eq_true] at hn1
      refine ⟨?_, ih he.2 hn1.2⟩
      rw [he.1]
      exact le2_refl v hn1.1
  · have hn2 := hn.2
    have key : ∀ (os' : List (Nat × OB)), KpO s os' → (∀ p ∈ os', (os.map (·.1)).contains p.1 = true) → os'.all (fun p => nmInO (os.map (·.1)) p.2) = true → leObs s (idR (os.map (·.1))) os' := by
      intro os'
      induction os' with
      | nil => intros; trivial
      | cons p r ih =>
        obtain ⟨n, o⟩ := p
        intro h1 h2 h3
        simp only [List.all_cons, Bool.and_eq_true] at h3
        refine ⟨?_, ih h1.2 (fun p hp => h2 p (by simp [hp])) h3.2⟩
        rw [idR_lk _ _ (h2 (n, o) (by simp))]
        simp only
        rw [h1.1]
        exact leO_refl o h3.1
    exact key os ho (fun p hp => by simp only [List.contains_iff_mem]; exact List.mem_map.2 ⟨p, hp, rfl⟩) hn2
  · rw [idR_fst]; exact hd
  · rw [idR_snd]; exact hd
  · exact idR_fst _
  · intro n h
    exact idR_lk _ _ (List.all_eq_true.1 hf n h)
/-- Slots and objects are forgotten. -/
theorem AW_ko {nt : Nat} {fs : List Nat} {Q : AExit → St → Prop} {st : St} {c : Code} (e : List (Nat × AV)) (os : List (Nat × OB)) (he : KpE st e) (ho : KpO st os) (hn : nmAll e os = true) (hd : (os.map (·.1)).Nodup) (hf : fs.all (fun n => (os.map (·.1)).contains n) = true) (h : AW P nt fs c Q { env := lkE e, ob := lk os }) : AW P nt fs c Q st := AW_le (LeS.ko e os he ho hn hd hf) h
end Go.Proofs.Ytpaccfeiaekacaa.Vs

import Derived.Test.YtmcekkllkfccjaaVs5
section
namespace Go.Proofs.Ytmcekkllkfccjaa.Vs
set_option linter.unusedVariables false
set_option linter.unusedSimpArgs false
set_option linter.unusedSectionVars false
set_option linter.unnecessarySimpa false
set_option linter.all false
open Go.RowKit
variable {P : Program}
def befF (acc : List Nat) (m : Nat) (e : Edge) : Nat := if Region.binds .any e = true ∧ e.on < acc.length then m ||| 2 ^ e.on ||| acc.getD e.on 0 else m
theorem befF_bit {acc : List Nat} {j : Nat} : ∀ (es : List Edge) (m : Nat), (es.foldl (befF acc) m).testBit j = true → m.testBit j = true ∨ ∃ e ∈ es, Region.binds .any e = true ∧ e.on < acc.length ∧ (e.on = j ∨ (acc.getD e.on 0).testBit j = true)
  | [], _, h => .inl h
  | e :: es, m, h => by
    rcases befF_bit es _ h with h1 | ⟨e', h1, h2⟩
    · unfold befF at h1
      split at h1
      · rename_i hc
        simp only [Nat.testBit_or, Bool.or_eq_true, Nat.testBit_two_pow, decide_eq_true_eq] at h1
        rcases h1 with (h1 | h1) | h1
        · exact .inl h1
        · exact .inr ⟨e, by simp, hc.1, hc.2, .inl h1⟩
        · exact .inr ⟨e, by simp, hc.1, hc.2, .inr h1⟩
      · exact .inl h1
    · exact .inr ⟨e', by simp [h1], h2⟩
theorem befGo_old : ∀ (l : List Oper) (acc : List Nat) (i : Nat), i < acc.length → (befGo l acc).getD i 0 = acc.getD i 0
  | [], _, _, _ => rfl
  | o :: l, acc, i, h => by
    unfold befGo
    rw [befGo_old l _ i (by simp; omega)]
    simp only [List.getD_eq_getElem?_getD]
    rw [List.getElem?_append_left h]
theorem befGo_new : ∀ (l : List Oper) (acc : List Nat) (i : Nat) (o : Oper), l[i]? = some o → ∃ acc' : List Nat, acc'.length = acc.length + i ∧ (∀ k, k < acc'.length → acc'.getD k 0 = (befGo l acc).getD k 0) ∧ (befGo l acc).getD (acc.length + i) 0 = o.after.toList.foldl (befF acc') 0
  | [], _, _, _, h => by simp at h
  | p :: l, acc, 0, o, h => by
    simp at h; subst h
    refine ⟨acc, rfl, fun k hk => (befGo_old _ acc k hk).symm, ?_⟩
    unfold befGo
    rw [befGo_old l _ _ (by simp)]
    simp only [List.getD_eq_getElem?_getD]
    rw [List.getElem?_append_right (by omega)]
    simp only [Nat.add_zero, Nat.sub_self, List.getElem?_cons_zero, Option.getD_some]
    rfl
  | p :: l, acc, i + 1, o, h => by
    unfold befGo
    obtain ⟨acc', h1, h2, h3⟩ := befGo_new l (acc ++ [p.after.toList.foldl (fun m e => if Region.binds .any e = true ∧ e.on < acc.length then m ||| 2 ^ e.on ||| acc.getD e.on 0 else m) 0]) i o (by simpa using h)
    simp only [List.length_append, List.length_cons, List.length_nil] at h1 h3
    refine ⟨acc', by omega, h2, ?_⟩
    rw [← h3]
    congr 1
    omega
theorem bef_spec {l : List Oper} {i j : Nat} (h : bef l i j = true) : ∃ o e, l[i]? = some o ∧ e ∈ o.after ∧ Region.binds .any e = true ∧ e.on < i ∧ (e.on = j ∨ bef l e.on j = true) := by
  unfold bef at h
  cases ho : l[i]? with
  | none =>
    have : ∀ (l : List Oper) (acc : List Nat), (befGo l acc).length = acc.length + l.length := by
      intro l
      induction l with
      | nil => intro acc; rfl
      | cons o l ih => intro acc; unfold befGo; rw [ih]; simp; omega
    have hlen := this l []
    have hge : l.length ≤ i := by simpa using ho
    have : (befGo l []).getD i 0 = 0 := by
      simp only [List.getD_eq_getElem?_getD]
      rw [List.getElem?_eq_none (by rw [hlen]; simpa using hge)]; rfl
    rw [this] at h; simp at h
  | some o =>
    obtain ⟨acc', h1, h2, h3⟩ := befGo_new l [] i o ho
    simp only [List.length_nil, Nat.zero_add] at h1 h3
    rw [h3] at h
    rcases befF_bit _ _ h with h4 | ⟨e, h4, h5, h6, h7⟩
    · simp at h4
    · refine ⟨o, e, rfl, by simpa using h4, h5, by omega, h7.imp id fun h8 => ?_⟩
      unfold bef
      rw [← h2 _ h6]; exact h8
/-- L holds with each operation what comes ahead of it. -/
def Closed (l : List Oper) (L : Nat → Bool) : Prop := ∀ (i : Nat) o e, l[i]? = some o → L i = true → e ∈ o.after → Region.binds .any e = true → L e.on = true
theorem bef_in {l : List Oper} {L : Nat → Bool} (hc : Closed l L) : ∀ (i j : Nat), bef l i j = true → (∀ o e, l[i]? = some o → e ∈ o.after → Region.binds .any e = true → L e.on = true) → L j = true := by
  intro i
  induction i using Nat.strongRecOn with
  | _ i ih =>
    intro j hb hr
    obtain ⟨o, e, h1, h2, h3, h4, h5⟩ := bef_spec hb
    have hL := hr o e h1 h2 h3
    rcases h5 with rfl | h5
    · exact hL
    · exact ih e.on h4 j h5 fun o' e' ho' he' hb' => hc e.on o' e' ho' hL he' hb'
theorem ordOk_spec {l : List Oper} (h : ordOk l = true) : (∀ (i : Nat) o e, l[i]? = some o → e ∈ o.after → Region.binds .any e = true → e.on < i) ∧ ∀ (j i : Nat) p o, j < i → l[j]? = some p → l[i]? = some o → bef l i j = true ∨ p.apart l.toArray o = true := by
  unfold ordOk at h
  have h := List.all_eq_true.1 h
  constructor
  · intro i o e ho he hb
    have := h i (by simp; exact (List.getElem?_eq_some_iff.1 ho).1)
    rw [ho] at this
    simp only [Bool.and_eq_true] at this
    have := List.all_eq_true.1 this.1 e (by simpa using he)
    simpa [hb] using this
  · intro j i p o hji hp ho
    have := h i (by simp; exact (List.getElem?_eq_some_iff.1 ho).1)
    rw [ho] at this
    simp only [Bool.and_eq_true] at this
    have := List.all_eq_true.1 this.2 j (by simpa using hji)
    rw [hp] at this
    simpa using this
section
variable {C : Cx} {st : St}
theorem ready_mem {ops : Array Oper} {listed : Array Bool} {i : Nat} : i ∈ Region.ready .any ops listed ↔ i < ops.size ∧ listed.getD i true = false ∧ ∃ o, ops[i]? = some o ∧ ∀ e ∈ o.after, Region.binds .any e = true → listed.getD e.on false = true := by
  unfold Region.ready
  simp only [List.mem_filter, List.mem_range, Bool.and_eq_true, Bool.not_eq_true']
  constructor
  · rintro ⟨h1, h2, h3⟩
    refine ⟨h1, h2, ?_⟩
    cases ho : ops[i]? with
    | none => rw [ho] at h3; simp at h3
    | some o =>
      rw [ho] at h3
      refine ⟨o, rfl, fun e he hb => ?_⟩
      simp only [Option.map_some, Option.getD_some] at h3
      have := Array.all_eq_true_iff_forall_mem.1 h3 e he
      simpa [hb] using this
  · rintro ⟨h1, h2, o, ho, h3⟩
    refine ⟨h1, h2, ?_⟩
    rw [ho]
    simp only [Option.map_some, Option.getD_some]
    refine Array.all_eq_true_iff_forall_mem.2 fun e he => ?_
    by_cases hb : Region.binds .any e = true
    · simp [h3 e he hb]
    · simp [hb]
theorem all_listed {l : List Oper} (ho : ordOk l = true) {listed : Array Bool} (hs : listed.size = l.length) (hr : Region.ready .any l.toArray listed = []) : ∀ i, i < l.length → listed.getD i false = true := by
  intro i
  induction i using Nat.strongRecOn with
  | _ i ih =>
    intro hi
    apply Classical.byContradiction
    intro hne
    have : i ∈ Region.ready .any l.toArray listed := by
      refine ready_mem.2 ⟨by simpa using hi, ?_, l[i], by simp [hi], fun e he hb => ?_⟩
      · have : i < listed.size := by omega
        simp only [Array.getD, this, dif_pos] at hne ⊢
        simpa using hne
      · have hlt := (ordOk_spec ho).1 i l[i] e (by simp [hi]) he hb
        exact ih e.on hlt (by omega)
    rw [hr] at this
    simp at this
theorem looksAt_op {ops : Array Oper} {o : Oper} {t : Nat} (h : Operand.tmp t ∈ o.op.operands) : t ∈ o.looksAt ops :=
  List.mem_append_left _ (List.mem_filterMap.2 ⟨.tmp t, by simpa using h, rfl⟩)
theorem looksAt_gd {ops : Array Oper} {o : Oper} {j d : Nat} {want : Bool} (hg : o.guard = some (j, want)) (hd : (ops[j]?).bind (·.dst) = some d) : d ∈ o.looksAt ops := by
  unfold Oper.looksAt
  refine List.mem_append_right _ ?_
  rw [hg]
  simp only [hd]
  simp
/-- THE ORDER IS OPEN, and it does not matter. -/
theorem draw_any {l : List Oper} {z : Lz} (hz : z.map (·.1) = l) (ho : ordOk l = true) (hrun : Run P l.toArray z st) (hap : ∀ (j i : Nat) x y, j < i → z[j]? = some x → z[i]? = some y → bef l i j = true ∨ obApart x.2 y.2)
    (hD : ∀ x ∈ z, ∀ n, ¬ x.2.R n → x.2.T n → (∀ sz ys, st.ob n ≠ some (.flat sz ys)) ∧ ∀ y ∈ z, ∀ o, (n, o) ∈ y.2.u → ∀ sz ys, o ≠ .flat sz ys)
    (hd : ∀ o ∈ l, ∀ d, o.dst = some d → d < C.nt) {Q : Exit → Act → World → Prop} (hQ : ∀ a w, CC C (stF z (fun _ => true) 0 st) a w → Q .normal a w) :
    ∀ (fuel : Nat) (listed : Array Bool) (a : Act) (w : World), listed.size = l.length → Closed l (listed.getD · false) → ((List.range l.length).filter fun i => !listed.getD i true).length ≤ fuel →
      CC C (stF z (listed.getD · false) 0 st) a w → wpAny P .any l.toArray Q fuel listed a w := by
  have hzl : z.length = l.length := by rw [← hz]; simp
  have hzg : ∀ (i : Nat) x, z[i]? = some x → l[i]? = some x.1 := by
    intro i x hx
    rw [← hz]; simp [hx]
  have hend : ∀ (listed : Array Bool) (a : Act) (w : World), listed.size = l.length → (∀ i, i < l.length → listed.getD i false = true) → CC C (stF z (listed.getD · false) 0 st) a w → Q .normal a w := by
    intro listed a w hs hall hC
    apply hQ
    have : ∀ (x : Lz) (L : Nat → Bool) (i : Nat) (s : St), (∀ k, k < x.length → L (i + k) = true) → stF x L i s = stF x (fun _ => true) i s := by
      intro x
      induction x with
      | nil => intro L i s _; rfl
      | cons oe x ih =>
        intro L i s h
        obtain ⟨o, e⟩ := oe
        unfold stF
        rw [if_pos (by simpa using h 0 (by simp)), if_pos rfl]
        exact ih L (i + 1) _ fun k hk => by
          have := h (k + 1) (by simpa using hk)
          rwa [show i + (k + 1) = i + 1 + k by omega] at this
    rwa [this z (listed.getD · false) 0 st fun k hk => by rw [Nat.zero_add]; exact hall k (by omega)] at hC
  intro fuel
  induction fuel with
  | zero =>
    intro listed a w hs hcl hf hC
    have hnil : (List.range l.length).filter (fun i => !listed.getD i true) = [] := List.length_eq_zero_iff.1 (by omega)
    have hall : ∀ i, i < l.length → listed.getD i false = true := by
      intro i hi
      have := List.filter_eq_nil_iff.1 hnil i (by simpa using hi)
      have hlt : i < listed.size := by omega
      simp only [Array.getD, hlt, dif_pos] at this ⊢
      simpa using this
    refine ⟨?_, hend listed a w hs hall hC⟩
    unfold Region.ready
    refine List.filter_eq_nil_iff.2 fun i hi => ?_
    have hlt : i < l.length := by simpa using hi
    have := hall i hlt
    have hlt' : i < listed.size := by omega
    have h2 : listed.getD i true = true := by
      simp only [Array.getD_eq_getD_getElem?, Array.getElem?_eq_getElem hlt'] at this ⊢
      simpa using this
    rw [h2]
    simp
  | succ fuel ih =>
    intro listed a w hs hcl hf hC
    refine ⟨fun hr => hend listed a w hs (all_listed ho hs hr) hC, ?_⟩
    intro i hi
    obtain ⟨hlt, hun, o, hoi, haft⟩ := ready_mem.1 hi
    have hlt : i < l.length := by simpa using hlt
    have hoi : l[i]? = some o := by simpa using hoi
    have hun' : listed.getD i false = false := by
      have hlt' : i < listed.size := by omega
      simp only [Array.getD, hlt', dif_pos] at hun ⊢
      exact hun
    obtain ⟨x, hx⟩ : ∃ x, z[i]? = some x := ⟨z[i]'(by omega), by simp⟩
    have hxo : x.1 = o := by have := hzg i x hx; rw [hoi] at this; exact (Option.some.inj this).symm
    obtain ⟨o', e⟩ := x
    simp only at hxo; subst hxo
    -- the parts of the list
    have hsplit : z = z.take i ++ (o', e) :: z.drop (i + 1) := by
      obtain ⟨h1, h2⟩ := List.getElem?_eq_some_iff.1 hx
      rw [← h2, List.getElem_cons_drop, List.take_append_drop]
    have htl : (z.take i).length = i := by simp; omega
    let L : Nat → Bool := (listed.getD · false)
    have hLi : L i = false := hun'
    have hbefL : ∀ j, bef l i j = true → L j = true := fun j hb => bef_in hcl i j hb fun o2 e2 h1 h2 h3 => by
      rw [hoi] at h1; cases h1; exact haft e2 h2 h3
    -- those that come later in the text, and are listed already
    have hlater : ∀ (k : Nat) y, (z.drop (i + 1))[k]? = some y → L (i + 1 + k) = true → o'.apart l.toArray y.1 = true ∧ obApart e y.2 := by
      intro k y hy hL
      rw [List.getElem?_drop] at hy
      have hnb : ¬ bef l (i + 1 + k) i = true := by
        intro hb
        have := bef_in hcl (i + 1 + k) i hb fun o2 e2 h1 h2 h3 => hcl _ o2 e2 h1 hL h2 h3
        rw [hun'] at this; cases this
      exact ⟨((ordOk_spec ho).2 i (i + 1 + k) o' y.1 (by omega) hoi (hzg _ _ hy)).resolve_left hnb, (hap i (i + 1 + k) (o', e) y (by omega) hx hy).resolve_left hnb⟩
    have hsooner : ∀ (j : Nat) y, (z.take i)[j]? = some y → L j ≠ true → y.1.apart l.toArray o' = true ∧ obApart y.2 e := by
      intro j y hy hL
      have hji : j < i := by have := (List.getElem?_eq_some_iff.1 hy).1; omega
      rw [List.getElem?_take_of_lt hji] at hy
      have hnb : ¬ bef l i j = true := fun hb => hL (hbefL j hb)
      exact ⟨((ordOk_spec ho).2 j i y.1 o' hji (hzg _ _ hy) hoi).resolve_left hnb, (hap j i y (o', e) hji hy hx).resolve_left hnb⟩
    -- the state as it stands, and as the text has it
    have hS : ∀ L' : Nat → Bool, stF z L' 0 st = stF (z.drop (i + 1)) L' (i + 1) (if L' i = true then (stF (z.take i) L' 0 st).put o' e.v e.u else stF (z.take i) L' 0 st) := by
      intro L'
      conv => lhs; rw [hsplit]
      rw [stF_append, htl, Nat.zero_add]
      rfl
    have hSL := hS L
    rw [if_neg (by rw [hLi]; simp)] at hSL
    have hrunop := Run_split (z.take i) o' e (z.drop (i + 1)) st 0 (by rw [← hsplit]; exact hrun)
    have hagr : Agr l.toArray o' e.R e.T (stF z L 0 st) (stF (z.take i) (fun _ => true) 0 st) := by
      refine ⟨?_, ?_, ?_⟩
      · intro t ht
        have e1 := stF_env (t := t) (z.drop (i + 1)) L (i + 1) (stF (z.take i) L 0 st) fun k y hy hL hdst => (Oper.apart_spec (hlater k y hy hL).1).2.2 t hdst ht
        have e2 := stF_env2 (t := t) (z.take i) L (fun _ => true) 0 st st rfl fun j y hy hne hdst => (Oper.apart_spec (hsooner j y hy (by simpa using hne)).1).1 t hdst ht
        rw [hSL, e1, e2]
      · intro n hn
        have e1 := stF_ob (n := n) (z.drop (i + 1)) L (i + 1) (stF (z.take i) L 0 st) fun k y hy hL hu => ((hlater k y hy hL).2 n).2 hu hn
        have e2 := stF_ob2 (n := n) (z.take i) L (fun _ => true) 0 st st rfl fun j y hy hne hu => (((hsooner j y hy (by simpa using hne)).2 n).1 hu).1 hn
        rw [hSL, e1, e2]
      · intro n hn hT
        obtain ⟨h1, h2⟩ := hD (o', e) (List.mem_of_getElem? hx) n hn hT
        exact stF_noflat z L 0 st h1 h2
    -- the next state
    have hnext : stF z ((listed.setIfInBounds i true).getD · false) 0 st = (stF z L 0 st).put o' e.v e.u := by
      have hset : ∀ k, (listed.setIfInBounds i true).getD k false = if k = i then true else L k := by
        intro k
        simp only [Array.getD_eq_getD_getElem?]
        by_cases hk : k = i
        · subst hk
          rw [Array.getElem?_setIfInBounds_self_of_lt (by omega)]
          simp
        · rw [Array.getElem?_setIfInBounds_ne (Ne.symm hk), if_neg hk]
          simp [L, Array.getD_eq_getD_getElem?]
      have hfun : ((listed.setIfInBounds i true).getD · false) = fun k => if k = i then true else L k := funext hset
      rw [hfun, hS, if_pos (by simp), hSL]
      have hsame : ∀ (x : Lz) (L1 L2 : Nat → Bool) (b : Nat) (s : St), (∀ k, k < x.length → L1 (b + k) = L2 (b + k)) → stF x L1 b s = stF x L2 b s := by
        intro x
        induction x with
        | nil => intro _ _ _ _ _; rfl
        | cons oe x ih =>
          intro L1 L2 b s h
          obtain ⟨o, e⟩ := oe
          unfold stF
          rw [show L1 b = L2 b by simpa using h 0 (by simp)]
          exact ih L1 L2 (b + 1) _ fun k hk => by
            have := h (k + 1) (by simpa using hk)
            rwa [show b + (k + 1) = b + 1 + k by omega] at this
      rw [hsame (z.take i) _ L 0 st fun k hk => by rw [if_neg]; omega, hsame (z.drop (i + 1)) _ L (i + 1) _ fun k hk => by rw [if_neg]; omega]
      refine stF_late _ L (i + 1) _ o' e fun k y hy hL => ⟨fun d hdst => (Oper.apart_spec (hlater k y hy hL).1).2.1 d hdst, fun n hu => (((hlater k y hy hL).2 n).1 hu).2⟩
    have hgo : ∀ a' w', CC C ((stF z L 0 st).put o' e.v e.u) a' w' → wpAny P .any l.toArray Q fuel (listed.setIfInBounds i true) a' w' := by
      intro a' w' hC'
      refine ih _ a' w' (by simp [hs]) ?_ ?_ (by rw [hnext]; exact hC')
      · intro k o2 e2 h1 h2 h3 h4
        have hmono : ∀ m, listed.getD m false = true → (listed.setIfInBounds i true).getD m false = true := by
          intro m hm
          simp only [Array.getD_eq_getD_getElem?] at hm ⊢
          by_cases hk : m = i
          · subst hk; rw [Array.getElem?_setIfInBounds_self_of_lt (by omega)]; rfl
          · rw [Array.getElem?_setIfInBounds_ne (Ne.symm hk)]; exact hm
        by_cases hk : k = i
        · subst hk
          rw [hoi] at h1; cases h1
          exact hmono _ (haft e2 h3 h4)
        · refine hmono _ (hcl k o2 e2 h1 ?_ h3 h4)
          simp only [Array.getD_eq_getD_getElem?] at h2 ⊢
          rwa [Array.getElem?_setIfInBounds_ne (Ne.symm hk)] at h2
      · have hff : (List.range l.length).filter (fun k => !(listed.setIfInBounds i true).getD k true) = ((List.range l.length).filter fun k => !listed.getD k true).filter (fun k => decide (k ≠ i)) := by
          rw [List.filter_filter]
          apply List.filter_congr
          intro k hk
          simp only [Array.getD_eq_getD_getElem?]
          by_cases hki : k = i
          · subst hki; rw [Array.getElem?_setIfInBounds_self_of_lt (by omega)]; simp
          · rw [Array.getElem?_setIfInBounds_ne (Ne.symm hki)]; simp [hki]
        rw [hff]
        have : (((List.range l.length).filter fun k => !listed.getD k true).filter (fun k => decide (k ≠ i))).length < ((List.range l.length).filter fun k => !listed.getD k true).length :=
          List.length_filter_lt_length_iff_exists.2 ⟨i, List.mem_filter.2 ⟨by simpa using hlt, by rw [hun]; rfl⟩, by simp⟩
        omega
    -- the step
    obtain ⟨hw, hstep, hno⟩ := hrunop
    have hdo : ∀ d, o'.dst = some d → d < C.nt := hd o' (List.mem_of_getElem? hoi)
    have hstepL : e.wd = true → AStepX P (stF z L 0 st) o' e.v e.u := fun h => hstep h _ hagr
    obtain ⟨I, β, φ, hC⟩ := hC
    have hyes : Region.wanted o' (yielded l.toArray a.tmps) = e.wd := by
      unfold wantOk at hw
      cases hg : o'.guard with
      | none => rw [hg] at hw; simp only at hw; rw [hw]; simp [Region.wanted, hg]
      | some gw =>
        obtain ⟨j, want⟩ := gw
        rw [hg] at hw
        simp only at hw
        obtain ⟨d, hj, hb⟩ := hw
        have hy := yielded_eq l.toArray a.tmps j d hj
        have hed := hagr.1 d (looksAt_gd hg hj)
        have he := hC.env d
        rcases hb with ⟨b, hb, hwd⟩ | ⟨vs, hb, hwd⟩
        · rw [show (stF z (listed.getD · false) 0 st).env d = (stF z L 0 st).env d from rfl, hed, hb] at he
          change a.tmps.getD d undef = .bool b at he
          rw [he] at hy
          simp only [Region.wanted, hg, hy, hwd]
          cases b <;> cases want <;> rfl
        · rw [show (stF z (listed.getD · false) 0 st).env d = (stF z L 0 st).env d from rfl, hed, hb] at he
          change a.tmps.getD d undef = .tuple vs at he
          rw [he] at hy
          simp only [Region.wanted, hg, hy, hwd]
          cases want <;> rfl
    unfold wpOp
    simp only [List.getElem?_toArray, hoi]
    rw [hyes]
    cases hwd : e.wd with
    | true =>
      rw [if_pos rfl]
      exact .inl (astepX_sound hdo hC (hstepL hwd) fun a' w' hc => hgo a' w' hc)
    | false =>
      rw [if_neg (by simp)]
      obtain ⟨h1, h2⟩ := hno hwd
      refine hgo _ _ ?_
      rw [h1, h2]
      exact CC.put_undef hdo hC
end
end Go.Proofs.Ytmcekkllkfccjaa.Vs

end
section
namespace Go.Proofs.Ytmcekkllkfccjaa.Vs
set_option linter.unusedVariables false
set_option linter.unusedSimpArgs false
set_option linter.unusedSectionVars false
set_option linter.unnecessarySimpa false
set_option linter.all false
open Go.RowKit
variable {P : Program}
/-- A region whose order is open and that turns no object, in the order of the text. -/
def aregQ (P : Program) (ops : Array Oper) : List Oper → St → (St → Prop) → Prop
  | [], st, K => K st
  | o :: rest, st, K => match o.guard with
    | none => aK P st o fun v u => u = [] ∧ aregQ P ops rest (st.put o v []) K
    | some (j, want) => match (ops[j]?).bind (·.dst) with
      | some d => match st.env d with
        | .g (.bool b) => (b = want → aK P { st with env := upd st.env d (.g (.bool want)) } o fun v u => u = [] ∧ aregQ P ops rest (({ st with env := upd st.env d (.g (.bool want)) } : St).put o v []) K) ∧
            (b = (!want) → aregQ P ops rest (({ st with env := upd st.env d (.g (.bool (!want))) } : St).put o (.g undef) []) K)
        | .g (.tuple vs) => vs.size = 0 ∧ aregQ P ops rest (st.put o (.g undef) []) K
        | _ => False
      | none => False
theorem St.same_env {st : St} {d : Nat} {v : AV} (h : st.env d = v) : ({ st with env := upd st.env d v } : St) = st := by
  have : upd st.env d v = st.env := by
    funext m
    by_cases hm : m = d
    · subst hm; rw [upd_same, h]
    · rw [upd_other _ _ hm]
  rw [this]
theorem agr_all {ops : Array Oper} {o : Oper} {v : AV} {st st' : St} (h : AStep P st o v []) (ha : Agr ops o (fun _ => True) (fun _ => True) st' st) : AStep P st' o v [] := by
  refine AStep_env (funext fun n => ha.2.1 n trivial) (fun x hx => ?_) h
  cases x with
  | tmp t => exact ha.1 t (looksAt_op hx)
  | _ => rfl
theorem aregQ_run {ops : Array Oper} {K : St → Prop} : ∀ (l : List Oper) (st : St) (i : Nat), aregQ P ops l st K → ∃ z : Lz, z.map (·.1) = l ∧ Run P ops z st ∧ (∀ x ∈ z, x.2.u = [] ∧ ∀ n, x.2.R n) ∧ K (stF z (fun _ => true) i st)
  | [], st, i, h => ⟨[], rfl, trivial, by simp, h⟩
  | o :: rest, st, i, h => by
    unfold aregQ at h
    have done : ∀ e : En, e.u = [] → (∀ n, e.R n) → RunOp P ops st o e → aregQ P ops rest (st.put o e.v e.u) K → ∃ z : Lz, z.map (·.1) = o :: rest ∧ Run P ops z st ∧ (∀ x ∈ z, x.2.u = [] ∧ ∀ n, x.2.R n) ∧ K (stF z (fun _ => true) i st) := by
      intro e hu hR hr h
      obtain ⟨z, h1, h2, h3, h4⟩ := aregQ_run rest _ (i + 1) h
      refine ⟨(o, e) :: z, by simp [h1], ⟨hr, h2⟩, ?_, ?_⟩
      · intro x hx
        rcases List.mem_cons.1 hx with rfl | hx
        · exact ⟨hu, hR⟩
        · exact h3 x hx
      · unfold stF; rw [if_pos rfl]; exact h4
    split at h
    · rename_i hg
      obtain ⟨v, u, h1, rfl, h2⟩ := aK_step h
      exact done ⟨true, v, [], fun _ => True, fun _ => True⟩ rfl (fun _ => trivial) ⟨by unfold wantOk; rw [hg], fun _ st' ha => AStepX_of (agr_all h1 ha), by simp⟩ h2
    · rename_i j want hg
      split at h
      · rename_i d hj
        split at h
        · rename_i b hb
          by_cases hbw : b = want
          · subst hbw
            have h := h.1 rfl
            rw [St.same_env hb] at h
            obtain ⟨v, u, h1, rfl, h2⟩ := aK_step h
            exact done ⟨true, v, [], fun _ => True, fun _ => True⟩ rfl (fun _ => trivial) ⟨by unfold wantOk; rw [hg]; exact ⟨d, hj, .inl ⟨b, hb, by simp⟩⟩, fun _ st' ha => AStepX_of (agr_all h1 ha), by simp⟩ h2
          · have hbn : b = !want := by cases b <;> cases want <;> simp_all
            subst hbn
            have h := h.2 rfl
            rw [St.same_env hb] at h
            exact done ⟨false, .g undef, [], fun _ => True, fun _ => True⟩ rfl (fun _ => trivial) ⟨by unfold wantOk; rw [hg]; exact ⟨d, hj, .inl ⟨!want, hb, by cases want <;> rfl⟩⟩, by simp, fun _ => ⟨rfl, rfl⟩⟩ h
        · rename_i vs hb
          exact done ⟨false, .g undef, [], fun _ => True, fun _ => True⟩ rfl (fun _ => trivial) ⟨by unfold wantOk; rw [hg]; exact ⟨d, hj, .inr ⟨vs, hb, rfl⟩⟩, by simp, fun _ => ⟨rfl, rfl⟩⟩ h.2
        · exact h.elim
      · exact h.elim
theorem CC.drew {C : Cx} {st : St} {a : Act} {w : World} (h : CC C st a w) : CC C st a { w with drawn := w.drawn + 1 } := by
  obtain ⟨I, β, φ, hC⟩ := h
  exact ⟨I, β, φ, hC.move (ob' := st.ob) (β' := β) (φ' := φ) (I' := I) (fun _ => False) (Evo.refl _ w).drew (fun _ h => h.elim) (fun _ h => h) (fun _ h => .inl h) (fun _ _ h => h)
    (fun n o ho => .inl ⟨ho, rfl, fun _ _ h => h⟩) hC.dom hC.fdom hC.sep hC.nimm hC.flt hC.wok hC.fnew⟩
theorem stF_nil : ∀ (z : Lz) (i : Nat) (st : St), stF z (fun _ => false) i st = st
  | [], _, _ => rfl
  | (o, e) :: z, i, st => by unfold stF; rw [if_neg (by simp)]; exact stF_nil z (i + 1) st
theorem draw_start {C : Cx} {st : St} {l : List Oper} {z : Lz} (hm : P.follows .mixedOrders = true) (hz : z.map (·.1) = l) (ho : ordOk l = true) (hrun : Run P l.toArray z st) (hap : ∀ (j i : Nat) x y, j < i → z[j]? = some x → z[i]? = some y → bef l i j = true ∨ obApart x.2 y.2)
    (hD : ∀ x ∈ z, ∀ n, ¬ x.2.R n → x.2.T n → (∀ sz ys, st.ob n ≠ some (.flat sz ys)) ∧ ∀ y ∈ z, ∀ o, (n, o) ∈ y.2.u → ∀ sz ys, o ≠ .flat sz ys)
    (hd : ∀ o ∈ l, ∀ d, o.dst = some d → d < C.nt) {Q : Exit → Act → World → Prop} (hQ : ∀ a w, CC C (stF z (fun _ => true) 0 st) a w → Q .normal a w) {id : Nat} {a : Act} {w : World} (hC : CC C st a w) : (Code.region id l.toArray true).wp P Q a w := by
  refine wp_region_any hm ?_
  have hf : ((Array.replicate l.toArray.size false).getD · false) = fun _ => false := by
    funext k
    simp only [Array.getD_eq_getD_getElem?, Array.getElem?_replicate]
    split <;> rfl
  refine draw_any hz ho hrun hap hD hd hQ _ _ a _ (by simp) ?_ ?_ ?_
  · rw [hf]; intro i o e _ h; cases h
  · exact Nat.le_trans (List.length_filter_le _ _) (by simp)
  · rw [hf, stF_nil]; exact hC.drew
section
variable {nt : Nat} {fs : List Nat} {Q : AExit → St → Prop} {st : St}
theorem AW_quiet {id : Nat} {l : List Oper} (hm : P.follows .mixedOrders = true) (ho : ordOk l = true) (hd : dstOk nt l.toArray = true) (h : aregQ P l.toArray l st (Q .normal)) : AW P nt fs (.region id l.toArray true) Q st := by
  intro C a w hn hf hC
  subst hn
  obtain ⟨z, h1, h2, h3, h4⟩ := aregQ_run l st 0 h
  refine draw_start hm h1 ho h2 ?_ (fun x hx n hn _ => absurd ((h3 x hx).2 n) hn) (by simpa using dstOk_spec hd) (fun a w hc => ⟨_, h4, hc⟩) hC
  intro j i x y _ hx hy
  refine .inr fun n => ?_
  rw [(h3 x (List.mem_of_getElem? hx)).1, (h3 y (List.mem_of_getElem? hy)).1]
  exact ⟨fun ⟨_, h⟩ => by simp at h, fun ⟨_, h⟩ => by simp at h⟩
end
end Go.Proofs.Ytmcekkllkfccjaa.Vs

end
section
namespace Go.Proofs.Ytmcekkllkfccjaa.Vs
set_option linter.unusedVariables false
set_option linter.unusedSimpArgs false
set_option linter.unusedSectionVars false
set_option linter.unnecessarySimpa false
set_option linter.all false
open Go.RowKit
variable {P : Program}
/-! ### Helps for the walk by simp -/
@[congr] theorem CK_congr {st : St} {f : FuncId} {l l' : List AV} {K : AV → Ups → Prop} (h : l = l') : CK P st f l K = CK P st f l' K := by rw [h]
@[congr] theorem AW_congr {nt : Nat} {fs : List Nat} {c : Code} {Q : AExit → St → Prop} {st st' : St} (h : st = st') : AW P nt fs c Q st = AW P nt fs c Q st' := by rw [h]
@[congr] theorem aK_congr {st st' : St} {o : Oper} {K : AV → Ups → Prop} (h : st = st') : aK P st o K = aK P st' o K := by rw [h]
@[congr] theorem areg_congr {ops : Array Oper} {l : List Oper} {st st' : St} {K : St → Prop} (h : st = st') : areg P ops l st K = areg P ops l st' K := by rw [h]
@[congr] theorem aregQ_congr {ops : Array Oper} {l : List Oper} {st st' : St} {K : St → Prop} (h : st = st') : aregQ P ops l st K = aregQ P ops l st' K := by rw [h]
theorem aK_mono {st : St} {o : Oper} {K K' : AV → Ups → Prop} (h : aK P st o K) (hk : ∀ v u, K v u → K' v u) : aK P st o K' := by
  obtain ⟨dst, op, ty, pos, aft, gd⟩ := o
  unfold aK at h ⊢
  cases op with
  | call c =>
    simp only at h ⊢
    cases hc : c.callee with
    | builtin b =>
      rw [hc] at h
      simp only at h ⊢
      generalize aBuiltin P st _ b _ _ = r at h ⊢
      cases r with
      | none => exact h
      | some t => obtain ⟨p, v, u⟩ := t; exact ⟨h.1, hk _ _ h.2⟩
    | invoke _ _ => rw [hc] at h; exact h.elim
    | value f =>
      rw [hc] at h
      simp only at h ⊢
      split at h
      · obtain ⟨v, u, h1, h2⟩ := h
        exact ⟨v, u, h1, hk _ _ h2⟩
      · exact h.elim
  | _ =>
    simp only at h ⊢
    generalize aop P st _ _ = r at h ⊢
    cases r with
    | none => exact h
    | some t => obtain ⟨p, v, u⟩ := t; exact ⟨h.1, hk _ _ h.2⟩
theorem am2s_nil {st : St} {ν : Nat → Option Nat} : am2s st ν [] [] := rfl
theorem am2s_cons {st : St} {ν : Nat → Option Nat} {a b : AV} {l m : List AV} (h : am2 st ν a b) (t : am2s st ν l m) : am2s st ν (a :: l) (b :: m) := ⟨h, t⟩
theorem am2_g {st : St} {ν : Nat → Option Nat} {v : Value} : am2 st ν (.g v) (.g v) := by
  show am0 st ν _ _
  unfold am0
  split <;> simp_all
theorem am2_sl {st : St} {ν : Nat → Option Nat} {sz : Nat} {xs : List (List AV)} : am2 st ν (.sl sz xs) (.sl sz xs) := ⟨rfl, rfl⟩
/-- Cells that reach no row of the frame's own. -/
def plain1 : AV → Bool
  | .g _ => true
  | .s _ => true
  | .sl .. => true
  | .ip _ => true
  | _ => false
theorem am1_plain {st : St} {ν : Nat → Option Nat} : ∀ (c : AV), plain1 c = true → am1 st ν c c
  | .g _, _ => am2_g
  | .s _, _ => rfl
  | .sl .., _ => ⟨rfl, rfl⟩
  | .ip _, _ => rfl
  | .agg .., h | .ot .., h | .arr .., h | .ptr .., h | .eptr .., h | .fn .., h | .tup .., h | .undef, h => by simp [plain1] at h
theorem am1s_plain {st : St} {ν : Nat → Option Nat} : ∀ (cs : List AV), cs.all plain1 = true → am1s st ν cs cs
  | [], _ => rfl
  | c :: cs, h => by
    simp only [List.all_cons, Bool.and_eq_true] at h
    exact ⟨am1_plain c h.1, am1s_plain cs h.2⟩
theorem am2_agg {st : St} {ν : Nat → Option Nat} {cs : List AV} (h : cs.all plain1 = true) : am2 st ν (.agg cs) (.agg cs) := am1s_plain cs h
def plain2 : AV → Bool
  | .agg cs => cs.all plain1
  | a => plain1 a
/-- The slots that are kept hold what they held; the objects likewise. -/
def KpE (st : St) : List (Nat × AV) → Prop
  | [] => True
  | (t, v) :: r => st.env t = v ∧ KpE st r
theorem KpE_get {st : St} : ∀ {e : List (Nat × AV)}, KpE st e → ∀ n v, lk e n = some v → st.env n = v
  | (k, u) :: r, h, n, v, hl => by
    unfold lk at hl
    cases hk : n == k with
    | true => rw [hk] at hl; simp at hl hk; subst hl; subst hk; exact h.1
    | false => rw [hk] at hl; exact KpE_get h.2 n v hl
section
variable {nt : Nat} {fs : List Nat} {Q : AExit → St → Prop} {st : St}
theorem AW_region' {id : Nat} {l : List Oper} {y : Code} (hd : dstOk nt l.toArray = true) (h : areg P l.toArray l st fun s => AW P nt fs y Q s) : AW P nt fs (.seq (.region id l.toArray false) y) Q st :=
  AW_seq (AW_region hd h)
theorem AW_quiet' {id : Nat} {l : List Oper} {y : Code} (hm : P.follows .mixedOrders = true) (ho : ordOk l = true) (hd : dstOk nt l.toArray = true) (h : aregQ P l.toArray l st fun s => AW P nt fs y Q s) : AW P nt fs (.seq (.region id l.toArray true) y) Q st :=
  AW_seq (AW_quiet hm ho hd h)
end
end Go.Proofs.Ytmcekkllkfccjaa.Vs

end

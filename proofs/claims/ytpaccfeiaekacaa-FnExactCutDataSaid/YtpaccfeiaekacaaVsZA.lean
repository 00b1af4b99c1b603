import Derived.Test.YtpaccfeiaekacaaVsZ
namespace Go.Proofs.Ytpaccfeiaekacaa.Vs
set_option linter.unusedVariables false
set_option linter.unusedSimpArgs false
set_option linter.unusedSectionVars false
set_option linter.unnecessarySimpa false
set_option linter.all false
open Go.RowKit
variable {P : Program}
/-- A region whose order is open and that turns no object, in the order of the text. -/
def aregQ (P : Program) (ops : Array Oper) : List Oper → St → (St → Prop) → Prop
  | [], st, K => K st
  | o :: rest, st, K => match o.guard with
    | none => aK P st o fun v u => u = [] ∧ aregQ P ops rest (st.put o v []) K
    | some (j, want) => match (ops[j]?).bind (·.dst) with
      | some d => match st.env d with
        | .g (.bool b) => (b = want → aK P { st with env := upd st.env d (.g (.bool want)) } o fun v u => u = [] ∧ aregQ P ops rest (({ st with env := upd st.env d (.g (.bool want)) } : St).put o v []) K) ∧
            (b = (!want) → aregQ P ops rest (({ st with env := upd st.env d (.g (.bool (!want))) } : St).put o (.g undef) []) K)
        | .g (.tuple vs) => vs.size = 0 ∧ aregQ P ops rest (st.put o (.g undef) []) K
        | _ => False
      | none => False
theorem St.same_env {st : St} {d : Nat} {v : AV} (h : st.env d = v) : ({ st with env := upd st.env d v } : St) = st := by
  have : upd st.env d v = st.env := by
    funext m
    by_cases hm : m = d
    · subst hm; rw [upd_same, h]
    · rw [upd_other _ _ hm]
  rw [this]
theorem agr_all {ops : Array Oper} {o : Oper} {v : AV} {st st' : St} (h : AStep P st o v []) (ha : Agr ops o (fun _ => True) st' st) : AStep P st' o v [] := by
  refine AStep_env (funext fun n => ha.2.1 n trivial) (fun x hx => ?_) h
  cases x with
  | tmp t => exact ha.1 t (looksAt_op hx)
  | _ => rfl
theorem aregQ_run {ops : Array Oper} {K : St → Prop} : ∀ (l : List Oper) (st : St) (i : Nat), aregQ P ops l st K → ∃ z : Lz, z.map (·.1) = l ∧ Run P ops z st ∧ (∀ x ∈ z, x.2.u = [] ∧ ∀ n, x.2.R n) ∧ K (stF z (fun _ => true) i st)
  | [], st, i, h => ⟨[], rfl, trivial, by simp, h⟩
  | o :: rest, st, i, h => by
    unfold aregQ at h
    have done : ∀ e : En, e.u = [] → (∀ n, e.R n) → RunOp P ops st o e → aregQ P ops rest (st.put o e.v e.u) K → ∃ z : Lz, z.map (·.1) = o :: rest ∧ Run P ops z st ∧ (∀ x ∈ z, x.2.u = [] ∧ ∀ n, x.2.R n) ∧ K (stF z (fun _ => true) i st) := by
      intro e hu hR hr h
      obtain ⟨z, h1, h2, h3, h4⟩ := aregQ_run rest _ (i + 1) h
      refine ⟨(o, e) :: z, by simp [h1], ⟨hr, h2⟩, ?_, ?_⟩
      · intro x hx
        rcases List.mem_cons.1 hx with rfl | hx
        · exact ⟨hu, hR⟩
        · exact h3 x hx
      · unfold stF; rw [if_pos rfl]; exact h4
    split at h
    · rename_i hg
      obtain ⟨v, u, h1, rfl, h2⟩ := aK_step h
      exact done ⟨true, v, [], fun _ => True⟩ rfl (fun _ => trivial) ⟨by unfold wantOk; rw [hg], fun _ st' ha => agr_all h1 ha, by simp⟩ h2
    · rename_i j want hg
      split at h
      · rename_i d hj
        split at h
        · rename_i b hb
          by_cases hbw : b = want
          · subst hbw
            have h := h.1 rfl
            rw [St.same_env hb] at h
            obtain ⟨v, u, h1, rfl, h2⟩ := aK_step h
            exact done ⟨true, v, [], fun _ => True⟩ rfl (fun _ => trivial) ⟨by unfold wantOk; rw [hg]; exact ⟨d, hj, .inl ⟨b, hb, by simp⟩⟩, fun _ st' ha => agr_all h1 ha, by simp⟩ h2
          · have hbn : b = !want := by cases b <;> cases want <;> simp_all
            subst hbn
            have h := h.2 rfl
            rw [St.same_env hb] at h
            exact done ⟨false, .g undef, [], fun _ => True⟩ rfl (fun _ => trivial) ⟨by unfold wantOk; rw [hg]; exact ⟨d, hj, .inl ⟨!want, hb, by cases want <;> rfl⟩⟩, by simp, fun _ => ⟨rfl, rfl⟩⟩ h
        · rename_i vs hb
          exact done ⟨false, .g undef, [], fun _ => True⟩ rfl (fun _ => trivial) ⟨by unfold wantOk; rw [hg]; exact ⟨d, hj, .inr ⟨vs, hb, rfl⟩⟩, by simp, fun _ => ⟨rfl, rfl⟩⟩ h.2
        · exact h.elim
      · exact h.elim
theorem CC.drew {C : Cx} {st : St} {a : Act} {w : World} (h : CC C st a w) : CC C st a { w with drawn := w.drawn + 1 } := by
  obtain ⟨I, β, φ, hC⟩ := h
  exact ⟨I, β, φ, hC.move (ob' := st.ob) (β' := β) (φ' := φ) (I' := I) (fun _ => False) (Evo.refl _ w).drew (fun _ h => h.elim) (fun _ h => h) (fun _ h => .inl h) (fun _ _ h => h)
    (fun n o ho => .inl ⟨ho, rfl, fun _ _ h => h⟩) hC.dom hC.fdom hC.sep hC.nimm hC.flt hC.wok hC.fnew⟩
theorem stF_nil : ∀ (z : Lz) (i : Nat) (st : St), stF z (fun _ => false) i st = st
  | [], _, _ => rfl
  | (o, e) :: z, i, st => by unfold stF; rw [if_neg (by simp)]; exact stF_nil z (i + 1) st
theorem draw_start {C : Cx} {st : St} {l : List Oper} {z : Lz} (hm : P.follows .mixedOrders = true) (hz : z.map (·.1) = l) (ho : ordOk l = true) (hrun : Run P l.toArray z st) (hap : ∀ (j i : Nat) x y, j < i → z[j]? = some x → z[i]? = some y → bef l i j = true ∨ obApart x.2 y.2)
    (hD : ∀ x ∈ z, ∀ n, ¬ x.2.R n → (∀ sz ys, st.ob n ≠ some (.flat sz ys)) ∧ ∀ y ∈ z, ∀ o, (n, o) ∈ y.2.u → ∀ sz ys, o ≠ .flat sz ys)
    (hd : ∀ o ∈ l, ∀ d, o.dst = some d → d < C.nt) {Q : Exit → Act → World → Prop} (hQ : ∀ a w, CC C (stF z (fun _ => true) 0 st) a w → Q .normal a w) {id : Nat} {a : Act} {w : World} (hC : CC C st a w) : (Code.region id l.toArray true).wp P Q a w := by
  refine wp_region_any hm ?_
  have hf : ((Array.replicate l.toArray.size false).getD · false) = fun _ => false := by
    funext k
    simp only [Array.getD_eq_getD_getElem?, Array.getElem?_replicate]
    split <;> rfl
  refine draw_any hz ho hrun hap hD hd hQ _ _ a _ (by simp) ?_ ?_ ?_
  · rw [hf]; intro i o e _ h; cases h
  · exact Nat.le_trans (List.length_filter_le _ _) (by simp)
  · rw [hf, stF_nil]; exact hC.drew
section
variable {nt : Nat} {fs : List Nat} {Q : AExit → St → Prop} {st : St}
theorem AW_quiet {id : Nat} {l : List Oper} (hm : P.follows .mixedOrders = true) (ho : ordOk l = true) (hd : dstOk nt l.toArray = true) (h : aregQ P l.toArray l st (Q .normal)) : AW P nt fs (.region id l.toArray true) Q st := by
  intro C a w hn hf hC
  subst hn
  obtain ⟨z, h1, h2, h3, h4⟩ := aregQ_run l st 0 h
  refine draw_start hm h1 ho h2 ?_ (fun x hx n hn => absurd ((h3 x hx).2 n) hn) (by simpa using dstOk_spec hd) (fun a w hc => ⟨_, h4, hc⟩) hC
  intro j i x y _ hx hy
  refine .inr fun n => ?_
  rw [(h3 x (List.mem_of_getElem? hx)).1, (h3 y (List.mem_of_getElem? hy)).1]
  exact ⟨fun ⟨_, h⟩ => by simp at h, fun ⟨_, h⟩ => by simp at h⟩
end
end Go.Proofs.Ytpaccfeiaekacaa.Vs

import Derived.Test.YtpaccfeiaekacaaVsS
namespace Go.Proofs.Ytpaccfeiaekacaa.Vs
set_option linter.unusedVariables false
set_option linter.unusedSimpArgs false
set_option linter.unusedSectionVars false
set_option linter.unnecessarySimpa false
set_option linter.all false
open Go.RowKit
variable {P : Program}
def nmOf (o : Oper) : Nat := match o.dst with
  | some d => 16 * (d + 1)
  | none => 15
def St.put (st : St) (o : Oper) (v : AV) (u : Ups) : St := { env := match o.dst with | some d => upd st.env d v | none => st.env, ob := updL st.ob u }
/-- One operation: its value, the objects that it turns. -/
def AStep (P : Program) (st : St) (o : Oper) (v : AV) (u : Ups) : Prop :=
  match o.op with
  | .call c => match c.callee with
    | .builtin b => ∃ p, aBuiltin P st (nmOf o) b c.argTypes.toList (c.args.toList.map (ev st)) = some (p, v, u) ∧ p
    | .value f => match ev st f with
      | .fn fid fst cap => GStep P st fid (fst ++ c.args.toList.map (ev st) ++ cap) v u
      | _ => False
    | .invoke _ _ => False
  | op => ∃ p, aop P st (nmOf o) op = some (p, v, u) ∧ p
/-- A call, as the walk goes. -/
def CK (P : Program) (st : St) (f : FuncId) (actual : List AV) (K : AV → Ups → Prop) : Prop := ∃ v u, GStep P st f actual v u ∧ K v u
/-- The same, as the walk goes. -/
def aK (P : Program) (st : St) (o : Oper) (K : AV → Ups → Prop) : Prop :=
  match o.op with
  | .call c => match c.callee with
    | .builtin b => match aBuiltin P st (nmOf o) b c.argTypes.toList (c.args.toList.map (ev st)) with
      | some (p, v, u) => p ∧ K v u
      | none => False
    | .value f => match ev st f with
      | .fn fid fst cap => CK P st fid (fst ++ c.args.toList.map (ev st) ++ cap) K
      | _ => False
    | .invoke _ _ => False
  | op => match aop P st (nmOf o) op with
    | some (p, v, u) => p ∧ K v u
    | none => False
theorem aK_step {st : St} {o : Oper} {K : AV → Ups → Prop} (h : aK P st o K) : ∃ v u, AStep P st o v u ∧ K v u := by
  have fin : ∀ r : ARes, (match r with | some (p, v, u) => p ∧ K v u | none => False) → ∃ v u, (∃ p, r = some (p, v, u) ∧ p) ∧ K v u := by
    intro r h
    match r, h with
    | some (p, v, u), h => exact ⟨v, u, ⟨p, rfl, h.1⟩, h.2⟩
  obtain ⟨dst, op, ty, pos, aft, gd⟩ := o
  unfold aK at h
  unfold AStep
  cases op with
  | call c =>
    simp only at h ⊢
    cases hc : c.callee with
    | builtin b => rw [hc] at h; exact fin _ h
    | invoke _ _ => rw [hc] at h; exact h.elim
    | value f =>
      rw [hc] at h
      simp only at h ⊢
      split at h
      · rename_i fid fst cap hf
        obtain ⟨v, u, h1, h2⟩ := h
        exact ⟨v, u, h1, h2⟩
      · exact h.elim
  | _ => exact fin _ h
section
variable {C : Cx} {st : St} {a : Act} {w : World} {I : Nat → Prop} {β : Beta} {φ : Nat → List Nat}
def CC (C : Cx) (st : St) (a : Act) (w : World) : Prop := ∃ I β φ, Conc C st a w I β φ
theorem Rv2s_eval (hE : ∀ x, Rv w I β (ev st x) (a.eval x)) : ∀ (l : List Operand), (∀ x ∈ l, ∀ vs, ev st x ≠ .tup vs) → Rv2s w I β (l.map (ev st)) (l.map a.eval)
  | [], _ => rfl
  | x :: l, h => by
    refine ⟨_, _, rfl, ?_, Rv2s_eval hE l fun y hy => h y (by simp [hy])⟩
    have h2 := hE x
    have h3 := h x (by simp)
    generalize ev st x = v at *
    cases v <;> first | exact h2 | exact (h3 _ rfl).elim
theorem Rv2s_append : ∀ (l l' : List AV) (vs vs' : List Value), Rv2s w I β l vs → Rv2s w I β l' vs' → Rv2s w I β (l ++ l') (vs ++ vs')
  | [], _, _, _, h, h' => by cases h; exact h'
  | c :: l, l', _, vs', ⟨v, vs, rfl, h1, h2⟩, h' => ⟨v, vs ++ vs', rfl, h1, Rv2s_append l l' vs vs' h2 h'⟩
theorem Rv0_Rv2 : ∀ (c : AV) (v : Value), Rv0 w I β c v → Rv2 w I β c v
  | .g _, _, h => h | .s _, _, h => h | .sl _ _, _, h => h | .arr .., _, h => h | .ptr .., _, h => h | .eptr .., _, h => h | .ip .., _, h => h
  | .undef, _, _ => trivial
  | .agg .., _, h | .ot .., _, h | .tup .., _, h | .fn .., _, h => h.elim
theorem Rv0s_Rv2s : ∀ (l : List AV) (vs : List Value), Rv0s w I β l vs → Rv2s w I β l vs
  | [], _, h => h
  | c :: l, _, ⟨v, vs, rfl, h1, h2⟩ => ⟨v, vs, rfl, Rv0_Rv2 c v h1, Rv0s_Rv2s l vs h2⟩
theorem am2s_noTup {ν : Nat → Option Nat} : ∀ (l l' : List AV), am2s st ν l l' → ∀ x ∈ l, ∀ vs, x ≠ .tup vs
  | [], _, _, x, hx, _ => by simp at hx
  | _ :: _, [], h, _, _, _ => h.elim
  | c :: l, c' :: l', h, x, hx, vs => by
    rcases List.mem_cons.1 hx with rfl | hx
    · rintro rfl
      have := h.1
      simp [am2] at this
    · exact am2s_noTup l l' h.2 x hx vs
/-- One operation of a region, behind its guard. -/
theorem astep_sound {o : Oper} {v : AV} {u : Ups} {K : Act → World → Prop} {Q : Exit → Act → World → Prop} (hd : ∀ d, o.dst = some d → d < C.nt) (hC : Conc C st a w I β φ) (h : AStep P st o v u) (hK : ∀ a' w', CC C (st.put o v u) a' w' → K a' w') : o.wp P a w K Q := by
  have hE : ∀ x, Rv w I β (ev st x) (a.eval x) := Rv_eval hC.env
  have good : ∀ v u, GoodOp P C st a w o v u → (∀ a' w', CC C (st.put o v u) a' w' → K a' w') → o.wp P a w K Q := by
    rintro v u ⟨y, w', I', β', φ', hr, hv, hC'⟩ hK
    have hcc : CC C (st.put o v u) (a.put o.dst y) w' := by
      refine ⟨I', β', φ', ?_⟩
      unfold St.put
      cases hdst : o.dst with
      | none => exact hC'
      | some d => exact hC'.put (hd d hdst) hv
    rcases hr with hr | ⟨hr, rfl⟩
    · unfold Oper.wp; rw [hr]; exact hK _ _ hcc
    · unfold Oper.wp; rw [hr]; exact hK _ _ hcc
  obtain ⟨dst, op, ty, pos, aft, gd⟩ := o
  unfold AStep at h
  cases op with
  | call c =>
    obtain ⟨callee, args, argTypes⟩ := c
    simp only at h
    cases callee with
    | invoke _ _ => exact h.elim
    | builtin b =>
      obtain ⟨p, h1, h2⟩ := h
      exact good v u (builtin_sound hC rfl rfl rfl h1 h2) hK
    | value f =>
      simp only at h
      split at h
      · rename_i fid fst cap hfe
        obtain ⟨rns, wns, args', ros, wos, wos', ⟨⟨fn, hfn, hname, hbody⟩, -⟩, -, -, -, -, -, ham, -⟩ := id h
        have hnt : ∀ x ∈ args.toList, ∀ vs, ev st x ≠ .tup vs := fun x hx vs => am2s_noTup _ _ ham (ev st x) (by simp; exact .inr (.inl ⟨x, by simpa using hx, rfl⟩)) vs
        have hfv := hE f
        rw [hfe] at hfv
        obtain ⟨fs, us, hfv, h1, h2⟩ := hfv
        have hvs := Rv2s_append _ _ _ _ (Rv2s_append _ _ _ _ (Rv0s_Rv2s _ _ h1) (Rv2s_eval hE args.toList hnt)) (Rv0s_Rv2s _ _ h2)
        have hcall := gstep_sound hC hvs h
        unfold Oper.wp
        have hrun : (execOp a.eval ⟨dst, .call { callee := .value f, args, argTypes }, ty, pos, aft, gd⟩).run P w = .ok (.enter fid ⟨fs ++ args.toList.map a.eval ++ us⟩) w := by
          simp only [execOp, resolve, hfv, Deferred.ofValue, Sem.run_bind, Sem.run_pure, Result.andThen_ok, invoke, callFunc, run_program, hfn, hname, hbody]
          simp
        rw [hrun]
        refine hcall.mono ?_
        rintro e w' ⟨y, I', β', φ', rfl, hy, hC'⟩
        refine hK _ _ ⟨I', β', φ', ?_⟩
        unfold St.put
        cases dst with
        | none => exact hC'
        | some d => exact hC'.put (hd d rfl) hy
      · exact h.elim
  | _ =>
    obtain ⟨p, h1, h2⟩ := h
    exact good v u (aop_sound (nm := nmOf _) hC h1 h2) hK
/-- The operations of a region, in the order of the text. -/
def areg (P : Program) (ops : Array Oper) : List Oper → St → (St → Prop) → Prop
  | [], st, K => K st
  | o :: rest, st, K => match o.guard with
    | none => aK P st o fun v u => areg P ops rest (st.put o v u) K
    | some (j, want) => match (ops[j]?).bind (·.dst) with
      | some d => match st.env d with
        | .g (.bool b) => (b = want → aK P { st with env := upd st.env d (.g (.bool want)) } o fun v u => areg P ops rest (({ st with env := upd st.env d (.g (.bool want)) } : St).put o v u) K) ∧
            (b = (!want) → areg P ops rest (({ st with env := upd st.env d (.g (.bool (!want))) } : St).put o (.g undef) []) K)
        | .g (.tuple vs) => vs.size = 0 ∧ areg P ops rest (st.put o (.g undef) []) K
        | _ => False
      | none => False
theorem CC.put_undef {o : Oper} (hd : ∀ d, o.dst = some d → d < C.nt) (hC : Conc C st a w I β φ) : CC C (st.put o (.g undef) []) (a.put o.dst undef) w := by
  refine ⟨I, β, φ, ?_⟩
  unfold St.put
  cases hdst : o.dst with
  | none => exact hC
  | some d => exact hC.put (hd d hdst) rfl
theorem yielded_eq (ops : Array Oper) (tm : Array Value) (j d : Nat) (h : (ops[j]?).bind (·.dst) = some d) : yielded ops tm j = match tm.getD d undef with | .bool b => some b | _ => none := by
  unfold yielded
  rw [h]
  simp only [Option.bind_some, Array.getD_eq_getD_getElem?]
  cases tm[d]? with
  | none => rfl
  | some v => cases v <;> rfl
theorem Conc.same_env {d : Nat} {v : AV} (hC : Conc C st a w I β φ) (h : st.env d = v) : Conc C { st with env := upd st.env d v } a w I β φ := by
  have : upd st.env d v = st.env := by
    funext m
    by_cases hm : m = d
    · subst hm; rw [upd_same, h]
    · rw [upd_other _ _ hm]
  rw [this]; exact hC
theorem areg_sound {ops : Array Oper} {Q : Exit → Act → World → Prop} {K : St → Prop} : ∀ (l : List Oper) (st : St) (a : Act) (w : World), (∀ o ∈ l, ∀ d, o.dst = some d → d < C.nt) → areg P ops l st K → CC C st a w →
    (∀ st' a' w', K st' → CC C st' a' w' → Q .normal a' w') → wpList P ops Q l a w
  | [], st, a, w, _, h, hC, hQ => hQ st a w h hC
  | o :: rest, st, a, w, hd, h, hC, hQ => by
    have hd' : ∀ o ∈ rest, ∀ d, o.dst = some d → d < C.nt := fun o ho => hd o (by simp [ho])
    unfold areg at h
    unfold wpList
    obtain ⟨I, β, φ, hC⟩ := hC
    split at h
    · rename_i hg
      rw [if_pos (by simp [Region.wanted, hg])]
      obtain ⟨v, u, h1, h2⟩ := aK_step h
      exact .inl (astep_sound (hd o (by simp)) hC h1 fun a' w' hc => areg_sound rest _ a' w' hd' h2 hc hQ)
    · rename_i j want hg
      split at h
      · rename_i d hj
        have hy := yielded_eq ops a.tmps j d hj
        split at h
        · rename_i b hb
          have he := hC.env d
          rw [hb] at he
          change a.tmps.getD d undef = .bool b at he
          rw [he] at hy
          by_cases hbw : b = want
          · subst hbw
            rw [if_pos (by simp [Region.wanted, hg, hy])]
            obtain ⟨v, u, h1, h2⟩ := aK_step (h.1 rfl)
            exact .inl (astep_sound (hd o (by simp)) (hC.same_env hb) h1 fun a' w' hc => areg_sound rest _ a' w' hd' h2 hc hQ)
          · have hbn : b = !want := by cases b <;> cases want <;> simp_all
            rw [if_neg (by simp [Region.wanted, hg, hy, hbw])]
            subst hbn
            exact areg_sound rest _ _ w hd' (h.2 rfl) (CC.put_undef (hd o (by simp)) (hC.same_env hb)) hQ
        · rename_i vs hb
          have he := hC.env d
          rw [hb] at he
          change a.tmps.getD d undef = .tuple vs at he
          rw [he] at hy
          rw [if_neg (by simp [Region.wanted, hg, hy])]
          exact areg_sound rest _ _ w hd' h.2 (CC.put_undef (hd o (by simp)) hC) hQ
        · exact h.elim
      · exact h.elim
end
end Go.Proofs.Ytpaccfeiaekacaa.Vs

import Derived.Test.YtpaccfeiaekacaaVsZJ
namespace Go.Proofs.Ytpaccfeiaekacaa.Vs
set_option linter.unusedVariables false
set_option linter.unusedSimpArgs false
set_option linter.unusedSectionVars false
set_option linter.unnecessarySimpa false
set_option linter.all false
open Go.RowKit
variable {P : Program}
/-! ### A region whose order is open and that ends by making an object: what stands ahead only looks -/
section mono
variable {st st' : St} (hob : ∀ n, st'.ob n = st.ob n ∨ (st.ob n = none ∧ ∀ sz ys, st'.ob n ≠ some (.flat sz ys)))
include hob
theorem obS {n : Nat} {o : OB} (h : st.ob n = some o) : st'.ob n = some o := by
  rcases hob n with e | ⟨e, -⟩
  · rw [e, h]
  · rw [e] at h; cases h
theorem cellsAt_mono {x : AV} {r : List AV} (h : cellsAt st x = some r) : cellsAt st' x = some r := by
  unfold cellsAt at h ⊢
  split at h
  · split at h
    · rename_i e; rw [obS hob e]; exact h
    · rename_i e; rw [obS hob e]; exact h
    · cases h
  · split at h
    · rename_i e; rw [obS hob e]; exact h
    · rename_i e; rw [obS hob e]; exact h
    · rename_i e; rw [obS hob e]; exact h
    · cases h
  · exact h
  · cases h
theorem aLoad_mono {t : TypeId} {x : AV} {r : Prop × AV × Ups} (h : aLoad P st t x = some r) : aLoad P st' t x = some r := by
  unfold aLoad at h ⊢
  split at h
  · rename_i e1 e2; rw [e1, cellsAt_mono hob e2]; exact h
  · cases h
theorem aIndexAddr_mono {t : TypeId} {x i : AV} {r : Prop × AV × Ups} (h : aIndexAddr P st t x i = some r) : aIndexAddr P st' t x i = some r := by
  unfold aIndexAddr at h ⊢
  split at h
  · split at h
    · split at h
      · split at h
        · rename_i e; rw [obS hob e]; exact h
        · rename_i e; rw [obS hob e]; exact h
        · rename_i e; rw [obS hob e]; exact h
        · cases h
      · cases h
    · exact h
    · exact h
    · cases h
  · cases h
theorem aNews_mono {sz : Nat} {x : AV} {r : Prop × List (List AV)} (h : aNews st sz x = some r) : aNews st' sz x = some r := by
  unfold aNews at h ⊢
  split at h
  · split at h
    · rename_i e; rw [obS hob e]; exact h
    · rename_i e; rw [obS hob e]; exact h
    · cases h
  · exact h
  · exact h
  · cases h
theorem aConv_mono {a b : TypeId} {x : AV} {r : Prop × AV × Ups} (h : aConv P st a b x = some r) : aConv P st' a b x = some r := by
  unfold aConv at h ⊢
  split at h
  · exact h
  · exact h
  · split at h
    · split at h
      · rename_i e1 e2; rw [e1, aNews_mono hob e2]; exact h
      · cases h
    · cases h
  · cases h
theorem aSlice_mono {t : TypeId} {x : AV} {lo hi : Option AV} {r : Prop × AV × Ups} (h : aSlice P st t x lo hi = some r) : aSlice P st' t x lo hi = some r := by
  unfold aSlice at h ⊢
  split at h
  · split at h
    · exact h
    · exact h
    · split at h
      · split at h
        · rename_i e; rw [obS hob e]; exact h
        · rename_i e; rw [obS hob e]; exact h
        · rename_i e; rw [obS hob e]; exact h
        · cases h
      · cases h
    · cases h
  · cases h
theorem cellN_mono {ν : Nat → Option Nat} : ∀ (ns : List Nat) (l : List (List AV)), objsR st ν ns l → cellN st' ns = cellN st ns ∧ objsR st' ν ns l
  | [], _, h => ⟨rfl, h⟩
  | _ :: _, [], h => h.elim
  | n :: ns, _ :: css, ⟨⟨cs, h1, h2⟩, h3⟩ => by
    obtain ⟨h4, h5⟩ := cellN_mono ns css h3
    have hh : ∀ n sz ys, (st.ob n = some (.flat sz ys) ∨ st.ob n = some (.shared sz ys)) → (st'.ob n = some (.flat sz ys) ∨ st'.ob n = some (.shared sz ys)) := fun n sz ys h => h.imp (obS hob) (obS hob)
    have h1' := h1.imp (obS hob) (obS hob)
    refine ⟨?_, ⟨cs, h1', am1s_ob hh _ _ h2⟩, h5⟩
    unfold cellN
    rw [h4]
    rcases h1 with e | e <;> rw [obS hob e, e]
theorem frzU_mono : ∀ (l : List Nat), frzU st l = [] → frzU st' l = []
  | [], _ => rfl
  | n :: r, h => by
    unfold frzU at h ⊢
    split at h
    · cases h
    · rename_i hne
      rcases hob n with e | ⟨e, e2⟩
      · rw [e]
        split
        · rename_i he; exact absurd he (hne _ _)
        · exact frzU_mono r h
      · split
        · rename_i he; exact absurd he (e2 _ _)
        · exact frzU_mono r h
theorem GStep_mono {f : FuncId} {l : List AV} {v : AV} (h : GStep P st f l v []) : GStep P st' f l v [] := by
  obtain ⟨rns, wns, args', ros, wos, wos', h1, h2, h3, h4, h5, h6, h7, h8, h9, h10⟩ := h
  have hh : ∀ n sz ys, (st.ob n = some (.flat sz ys) ∨ st.ob n = some (.shared sz ys)) → (st'.ob n = some (.flat sz ys) ∨ st'.ob n = some (.shared sz ys)) := fun n sz ys h => h.imp (obS hob) (obS hob)
  have h10 := List.append_eq_nil_iff.1 h10.symm
  have hw : wns = [] := by
    cases wns with
    | nil => rfl
    | cons n ns =>
      cases wos' with
      | nil => simp at h3 h4; omega
      | cons _ _ => exact absurd h10.2 (by simp [zipW])
  subst hw
  obtain ⟨hc, ho⟩ := cellN_mono hob rns ros h8
  have hw2 : wos = [] := by cases wos with | nil => rfl | cons _ _ => simp at h3
  subst hw2
  have hw3 : wos' = [] := by cases wos' with | nil => rfl | cons _ _ => simp at h4
  subst hw3
  refine ⟨rns, [], args', ros, [], [], h1, h2, rfl, rfl, h5, h6, am2s_ob hh _ _ h7, ho, rfl, ?_⟩
  simp only [List.append_nil, zipW] at h10 ⊢
  rw [hc]
  have h11 := h10.1
  split at h11
  · rename_i hb; rw [if_pos hb]
  · rename_i hb; rw [if_neg hb, frzU_mono hob _ h11]
theorem aop_mono {nm : Nat} {o : Op} {c : Prop} {v : AV} (henv : st'.env = st.env) (h : aop P st nm o = some (c, v, [])) : aop P st' nm o = some (c, v, []) := by
  have hev : ∀ x, ev st' x = ev st x := by intro x; cases x <;> simp [ev, henv]
  have hpa : ∀ l, parts st' l = parts st l := by intro l; unfold parts; simp [hev]
  have hmap : ∀ l : List Operand, l.map (ev st') = l.map (ev st) := fun l => List.map_congr_left fun x _ => hev x
  have hev' : ev st' = ev st := funext hev
  cases o with
  | alloc t =>
    simp only [aop] at h
    split at h
    · cases h
    · cases h
  | box t x =>
    simp only [aop] at h
    split at h
    · cases h
    · cases h
  | buildSlice t len ps =>
    simp only [aop] at h
    unfold aBuildSlice at h
    repeat' split at h
    all_goals first | (simp at h; done) | (cases h; done)
  | store t x w =>
    simp only [aop] at h
    unfold aStore at h
    repeat' split at h
    all_goals first | (simp at h; done) | (cases h; done)
  | makeSlice t l c =>
    simp only [aop] at h
    unfold aMakeSlice at h
    repeat' split at h
    all_goals first | (simp at h; done) | (cases h; done)
  | load t x => simp only [aop, hev] at h ⊢; exact aLoad_mono hob h
  | indexAddr t x i => simp only [aop, hev] at h ⊢; exact aIndexAddr_mono hob h
  | convert a b x => simp only [aop, hev] at h ⊢; exact aConv_mono hob h
  | slice t x lo hi mx =>
    cases mx with
    | some m => exact h
    | none => simp only [aop, hev'] at h ⊢; exact aSlice_mono hob h
  | makeFunc fn first captured => cases fn <;> simp only [aop, hmap] at h ⊢ <;> exact h
  | build t ps => simp only [aop, hpa] at h ⊢; exact h
  | _ => simp only [aop, hev] at h ⊢ <;> exact h
omit hob in
theorem aBuiltin_mono {nm : Nat} {b : Builtin} {ts : List TypeId} {args : List AV} {c : Prop} {v : AV} (h : aBuiltin P st nm b ts args = some (c, v, [])) : aBuiltin P st' nm b ts args = some (c, v, []) := by
  unfold aBuiltin at h ⊢
  split at h
  · exact h
  · unfold aAppend at h
    repeat' split at h
    all_goals first | (simp at h; done) | (cases h; done)
  · exact h
  · exact h
  · cases h
theorem AStep_mono {o : Oper} {v : AV} (henv : st'.env = st.env) (h : AStep P st o v []) : AStep P st' o v [] := by
  have hev : ∀ x, ev st' x = ev st x := by intro x; cases x <;> simp [ev, henv]
  have hmap : ∀ l : List Operand, l.map (ev st') = l.map (ev st) := fun l => List.map_congr_left fun x _ => hev x
  obtain ⟨dst, op, ty, pos, aft, gd⟩ := o
  unfold AStep at h ⊢
  cases op with
  | call c =>
    simp only at h ⊢
    cases hc : c.callee with
    | builtin b =>
      rw [hc] at h; simp only at h ⊢
      obtain ⟨p, h1, h2⟩ := h
      rw [hmap]
      exact ⟨p, aBuiltin_mono h1, h2⟩
    | invoke _ _ => rw [hc] at h; exact h
    | value f =>
      rw [hc] at h; simp only at h ⊢
      rw [hev, hmap]
      split at h
      · exact GStep_mono hob h
      · exact h.elim
  | _ =>
    obtain ⟨p, h1, h2⟩ := h
    exact ⟨p, aop_mono hob henv h1, h2⟩
end mono
/-- The names of what the operations make. -/
def isAl : Op → Bool
  | .alloc _ => true
  | .box _ _ => true
  | _ => false
def alN (l : List Oper) : List Nat := (l.filter fun o => isAl o.op).map nmOf
theorem agr_late {ops : Array Oper} {o : Oper} {v : AV} {D : List Nat} {st st' : St} (hf : ∀ n ∈ D, st.ob n = none) (h : AStep P st o v []) (ha : Agr ops o (fun n => ¬ n ∈ D) st' st) : AStep P st' o v [] := by
  have h1 : AStep P { env := st'.env, ob := st.ob } o v [] := by
    refine AStep_env (st := st) (st' := { env := st'.env, ob := st.ob }) rfl (fun x hx => ?_) h
    cases x with
    | tmp t => exact ha.1 t (looksAt_op hx)
    | _ => rfl
  refine AStep_mono (st := { env := st'.env, ob := st.ob }) (fun n => ?_) rfl h1
  by_cases hn : n ∈ D
  · exact .inr ⟨hf n hn, ha.2.2 n (by simpa using hn)⟩
  · exact .inl (ha.2.1 n hn)
theorem aregQ_late {ops : Array Oper} {D : List Nat} {K : St → Prop} : ∀ (l : List Oper) (st : St) (i : Nat), (∀ n ∈ D, st.ob n = none) → aregQ P ops l st K → ∃ z : Lz, z.map (·.1) = l ∧ Run P ops z st ∧ (∀ x ∈ z, x.2.u = [] ∧ x.2.R = fun n => ¬ n ∈ D) ∧ K (stF z (fun _ => true) i st) ∧ (stF z (fun _ => true) i st).ob = st.ob
  | [], st, i, _, h => ⟨[], rfl, trivial, by simp, h, rfl⟩
  | o :: rest, st, i, hf, h => by
    unfold aregQ at h
    have done : ∀ e : En, e.u = [] → (e.R = fun n => ¬ n ∈ D) → RunOp P ops st o e → aregQ P ops rest (st.put o e.v e.u) K → ∃ z : Lz, z.map (·.1) = o :: rest ∧ Run P ops z st ∧ (∀ x ∈ z, x.2.u = [] ∧ x.2.R = fun n => ¬ n ∈ D) ∧ K (stF z (fun _ => true) i st) ∧ (stF z (fun _ => true) i st).ob = st.ob := by
      intro e hu hR hr h
      have hob : (st.put o e.v e.u).ob = st.ob := by rw [hu]; rfl
      obtain ⟨z, h1, h2, h3, h4, h5⟩ := aregQ_late rest _ (i + 1) (by rw [hob]; exact hf) h
      refine ⟨(o, e) :: z, by simp [h1], ⟨hr, h2⟩, ?_, ?_, ?_⟩
      · intro x hx
        rcases List.mem_cons.1 hx with rfl | hx
        · exact ⟨hu, hR⟩
        · exact h3 x hx
      · unfold stF; rw [if_pos rfl]; exact h4
      · unfold stF; rw [if_pos rfl, h5, hob]
    split at h
    · rename_i hg
      obtain ⟨v, u, h1, rfl, h2⟩ := aK_step h
      exact done ⟨true, v, [], fun n => ¬ n ∈ D⟩ rfl rfl ⟨by unfold wantOk; rw [hg], fun _ st' ha => agr_late hf h1 ha, by simp⟩ h2
    · rename_i j want hg
      split at h
      · rename_i d hj
        split at h
        · rename_i b hb
          by_cases hbw : b = want
          · subst hbw
            have h := h.1 rfl
            rw [St.same_env hb] at h
            obtain ⟨v, u, h1, rfl, h2⟩ := aK_step h
            exact done ⟨true, v, [], fun n => ¬ n ∈ D⟩ rfl rfl ⟨by unfold wantOk; rw [hg]; exact ⟨d, hj, .inl ⟨b, hb, by simp⟩⟩, fun _ st' ha => agr_late hf h1 ha, by simp⟩ h2
          · have hbn : b = !want := by cases b <;> cases want <;> simp_all
            subst hbn
            have h := h.2 rfl
            rw [St.same_env hb] at h
            exact done ⟨false, .g undef, [], fun n => ¬ n ∈ D⟩ rfl rfl ⟨by unfold wantOk; rw [hg]; exact ⟨d, hj, .inl ⟨!want, hb, by cases want <;> rfl⟩⟩, by simp, fun _ => ⟨rfl, rfl⟩⟩ h
        · rename_i vs hb
          exact done ⟨false, .g undef, [], fun n => ¬ n ∈ D⟩ rfl rfl ⟨by unfold wantOk; rw [hg]; exact ⟨d, hj, .inr ⟨vs, hb, rfl⟩⟩, by simp, fun _ => ⟨rfl, rfl⟩⟩ h.2
        · exact h.elim
      · exact h.elim
/-- What may stand last: it makes an object or writes one. -/
def isLo : Op → Bool
  | .alloc _ => true
  | .box _ _ => true
  | .store _ _ _ => true
  | _ => false
def wOk (k : Nat) (l : List Oper) : Bool :=
  (List.range l.length).all fun i => decide (i < k) || (match l[i]? with
    | some o => o.guard.isNone && isLo o.op && (List.range i).all fun j => bef l i j || (decide (j < k) && isAl o.op)
    | none => true)
theorem wOk_spec {k : Nat} {l : List Oper} (h : wOk k l = true) {i : Nat} {o : Oper} (hi : k ≤ i) (ho : l[i]? = some o) : o.guard = none ∧ isLo o.op = true ∧ ∀ j, j < i → bef l i j = true ∨ (j < k ∧ isAl o.op = true) := by
  unfold wOk at h
  have := List.all_eq_true.1 h i (by simp; exact (List.getElem?_eq_some_iff.1 ho).1)
  rw [ho] at this
  simp only [Bool.or_eq_true, decide_eq_true_eq, Bool.and_eq_true] at this
  rcases this with h1 | ⟨⟨h1, h2⟩, h3⟩
  · omega
  · refine ⟨by simpa using h1, h2, fun j hj => ?_⟩
    have := List.all_eq_true.1 h3 j (by simpa using hj)
    simpa using this
theorem frzU_shared {st : St} : ∀ (l : List Nat) n o, (n, o) ∈ frzU st l → ∀ sz ys, o ≠ .flat sz ys
  | [], _, _, h => by simp [frzU] at h
  | m :: r, n, o, h => by
    unfold frzU at h
    split at h
    · rcases List.mem_cons.1 h with h | h
      · cases h; intro _ _ h; cases h
      · exact frzU_shared r n o h
    · exact frzU_shared r n o h
theorem AStep_lo {st : St} {o : Oper} {v : AV} {u : Ups} (hl : isLo o.op = true) (h : AStep P st o v u) : (isAl o.op = true → ∃ cs, u = [(nmOf o, .cells cs)]) ∧ ∀ n, (∀ sz ys, st.ob n ≠ some (.flat sz ys)) → ∀ p, (n, p) ∈ u → ∀ sz ys, p ≠ .flat sz ys := by
  obtain ⟨dst, op, ty, pos, aft, gd⟩ := o
  unfold AStep at h
  cases op with
  | alloc t =>
    obtain ⟨p, h1, h2⟩ := h
    simp only [aop] at h1
    split at h1
    · cases h1
      refine ⟨fun _ => ⟨_, rfl⟩, fun n hn q hq => ?_⟩
      simp at hq; obtain ⟨-, rfl⟩ := hq; intro _ _ h; cases h
    · cases h1
  | box t x =>
    obtain ⟨p, h1, h2⟩ := h
    simp only [aop] at h1
    split at h1
    · cases h1
      refine ⟨fun _ => ⟨_, rfl⟩, fun n hn q hq => ?_⟩
      simp at hq; obtain ⟨-, rfl⟩ := hq; intro _ _ h; cases h
    · cases h1
  | store t x w =>
    obtain ⟨p, h1, h2⟩ := h
    refine ⟨fun h => (by cases h), fun n hn q hq => ?_⟩
    simp only [aop] at h1
    unfold aStore at h1
    split at h1
    · split at h1
      · split at h1
        · cases h1
          simp at hq; obtain ⟨-, rfl⟩ := hq; intro _ _ h; cases h
        · cases h1
      · split at h1
        · rename_i hob
          split at h1
          · cases h1
            rcases List.mem_append.1 hq with hq | hq
            · exact frzU_shared _ _ _ hq
            · simp at hq; obtain ⟨rfl, rfl⟩ := hq; exact absurd hob (hn _ _)
          · cases h1
        · cases h1
      · cases h1
    · cases h1
  | _ => cases hl
theorem updL_noflat {n : Nat} : ∀ (u : Ups) (ob : Nat → Option OB), (∀ o, (n, o) ∈ u → ∀ sz ys, o ≠ OB.flat sz ys) → (∀ sz ys, ob n ≠ some (.flat sz ys)) → ∀ sz ys, updL ob u n ≠ some (.flat sz ys) := by
  intro u
  induction u with
  | nil => intro ob _ h; exact h
  | cons p r ih =>
    obtain ⟨k, p⟩ := p
    intro ob h1 h2
    rw [updL_cons]
    refine ih _ (fun o ho => h1 o (by simp [ho])) ?_
    intro sz ys
    by_cases hk : n = k
    · subst hk; rw [upd_same]; intro he; cases he; exact h1 _ (by simp) sz ys rfl
    · rw [upd_other _ _ hk]; exact h2 sz ys
theorem areg_late {ops : Array Oper} {D : List Nat} {K : St → Prop} : ∀ (l : List Oper) (st : St) (i : Nat), (∀ o ∈ l, o.guard = none ∧ isLo o.op = true) → (∀ n ∈ D, ∀ sz ys, st.ob n ≠ some (.flat sz ys)) → areg P ops l st K →
    ∃ z : Lz, z.map (·.1) = l ∧ Run P ops z st ∧ (∀ x ∈ z, (∀ n, x.2.R n) ∧ (isAl x.1.op = true → ∃ cs, x.2.u = [(nmOf x.1, .cells cs)]) ∧ ∀ n ∈ D, ∀ o, (n, o) ∈ x.2.u → ∀ sz ys, o ≠ .flat sz ys) ∧ K (stF z (fun _ => true) i st)
  | [], st, i, _, _, h => ⟨[], rfl, trivial, by simp, h⟩
  | o :: rest, st, i, hl, hf, h => by
    unfold areg at h
    obtain ⟨hg, hlo⟩ := hl o (by simp)
    rw [hg] at h
    obtain ⟨v, u, h1, h2⟩ := aK_step h
    obtain ⟨h3, h4⟩ := AStep_lo hlo h1
    obtain ⟨z, g1, g2, g3, g4⟩ := areg_late rest (st.put o v u) (i + 1) (fun o ho => hl o (by simp [ho])) (fun n hn => updL_noflat u st.ob (h4 n (hf n hn)) (hf n hn)) h2
    refine ⟨(o, ⟨true, v, u, fun _ => True⟩) :: z, by simp [g1], ⟨⟨by unfold wantOk; rw [hg], fun _ st' ha => ?_, by simp⟩, g2⟩, ?_, ?_⟩
    · refine AStep_env (funext fun n => ha.2.1 n trivial) (fun x hx => ?_) h1
      cases x with
      | tmp t => exact ha.1 t (looksAt_op hx)
      | _ => rfl
    · intro x hx
      rcases List.mem_cons.1 hx with rfl | hx
      · exact ⟨fun _ => trivial, h3, fun n hn => h4 n (hf n hn)⟩
      · exact g3 x hx
    · unfold stF; rw [if_pos rfl]; exact g4
theorem Run_append {ops : Array Oper} : ∀ (x y : Lz) (st : St) (i : Nat), Run P ops x st → Run P ops y (stF x (fun _ => true) i st) → Run P ops (x ++ y) st
  | [], _, _, _, _, h => h
  | (o, e) :: x, y, st, i, h, h2 => by
    refine ⟨h.1, Run_append x y _ (i + 1) h.2 ?_⟩
    unfold stF at h2
    rwa [if_pos rfl] at h2
section
variable {nt : Nat} {fs : List Nat} {Q : AExit → St → Prop} {st : St}
theorem AW_late {id : Nat} {l : List Oper} (k : Nat) (hk : k ≤ l.length) (hm : P.follows .mixedOrders = true) (ho : ordOk l = true) (hw : wOk k l = true) (hd : dstOk nt l.toArray = true) (hf : ∀ n ∈ alN (l.drop k), st.ob n = none)
    (h : aregQ P l.toArray (l.take k) st fun s => areg P l.toArray (l.drop k) s (Q .normal)) : AW P nt fs (.region id l.toArray true) Q st := by
  intro C a w hn hfs hC
  subst hn
  obtain ⟨z1, h1, h2, h3, h4, h5⟩ := aregQ_late (D := alN (l.drop k)) _ st 0 hf h
  have hl2 : ∀ o ∈ l.drop k, o.guard = none ∧ isLo o.op = true := by
    intro o hom
    obtain ⟨i, hi⟩ := List.getElem?_of_mem hom
    rw [List.getElem?_drop] at hi
    have := wOk_spec hw (Nat.le_add_right k i) hi
    exact ⟨this.1, this.2.1⟩
  obtain ⟨z2, g1, g2, g3, g4⟩ := areg_late (D := alN (l.drop k)) _ _ k hl2 (fun n hn sz ys => by rw [h5, hf n hn]; simp) h4
  have hlen1 : z1.length = k := by rw [← List.length_map (f := (·.1)), h1]; simp; omega
  have hzl : (z1 ++ z2).map (·.1) = l := by rw [List.map_append, h1, g1, List.take_append_drop]
  have hst : stF (z1 ++ z2) (fun _ => true) 0 st = stF z2 (fun _ => true) k (stF z1 (fun _ => true) 0 st) := by rw [stF_append, hlen1, Nat.zero_add]
  refine draw_start hm hzl ho (Run_append z1 z2 st 0 h2 g2) ?_ ?_ (by simpa using dstOk_spec hd) (fun a w hc => ⟨_, by rw [hst]; exact g4, hc⟩) hC
  · intro j i x y hji hx hy
    have hyl : l[i]? = some y.1 := by rw [← hzl, List.getElem?_map, hy]; rfl
    by_cases hik : i < k
    · rw [List.getElem?_append_left (by omega)] at hx hy
      refine .inr fun n => ?_
      rw [(h3 x (List.mem_of_getElem? hx)).1, (h3 y (List.mem_of_getElem? hy)).1]
      exact ⟨fun ⟨_, h⟩ => by simp at h, fun ⟨_, h⟩ => by simp at h⟩
    · rcases (wOk_spec hw (by omega) hyl).2.2 j hji with hb | ⟨hjk, hal⟩
      · exact .inl hb
      · rw [List.getElem?_append_left (by omega)] at hx
        rw [List.getElem?_append_right (by omega)] at hy
        have hx3 := h3 x (List.mem_of_getElem? hx)
        obtain ⟨cs, hu⟩ := (g3 y (List.mem_of_getElem? hy)).2.1 hal
        refine .inr fun n => ?_
        rw [hx3.1, hx3.2, hu]
        refine ⟨fun ⟨_, h⟩ => by simp at h, fun ⟨_, h⟩ => ?_⟩
        simp at h
        obtain ⟨rfl, -⟩ := h
        simp only [Classical.not_not]
        have hym : y.1 ∈ l.drop k := by rw [← g1]; exact List.mem_map.2 ⟨y, List.mem_of_getElem? hy, rfl⟩
        exact List.mem_map.2 ⟨y.1, List.mem_filter.2 ⟨hym, hal⟩, rfl⟩
  · intro x hx n hn
    rcases List.mem_append.1 hx with hx | hx
    · rw [(h3 x hx).2] at hn
      simp only [Classical.not_not] at hn
      refine ⟨fun sz ys => by rw [hf n hn]; simp, fun y hy o ho => ?_⟩
      rcases List.mem_append.1 hy with hy | hy
      · rw [(h3 y hy).1] at ho; simp at ho
      · exact (g3 y hy).2.2 n hn o ho
    · exact absurd ((g3 x hx).1 n) hn
/-- A region whose order is open: the last operations make an object and write it. -/
theorem AW_w {id : Nat} {l : List Oper} {cs1 cs2 : List CO} {ns : List Nat} {y : Code} (k : Nat) (hk : k ≤ l.length) (hc1 : cosOf l.toArray (l.take k) = some cs1) (hc2 : cosOf l.toArray (l.drop k) = some cs2) (hns : alN (l.drop k) = ns) (hm : P.follows .mixedOrders = true) (ho : ordOk l = true) (hw : wOk k l = true) (hd : dstOk nt l.toArray = true)
    (h : ∀ K : St → Prop, (∀ s, AW P nt fs y Q s → K s) → (∀ n ∈ ns, st.ob n = none) ∧ creg P true cs1 st fun s => creg P false cs2 s K) : AW P nt fs (.seq (.region id l.toArray true) y) Q st := by
  obtain ⟨h1, h2⟩ := h _ fun _ h => h
  subst hns
  refine AW_seq (AW_late k hk hm ho hw hd h1 ?_)
  refine creg_aregQ _ cs1 st hc1 ?_
  have mono : ∀ (cs : List CO) (s : St) (K K' : St → Prop), (∀ s, K s → K' s) → creg P true cs s K → creg P true cs s K' := by
    intro cs
    induction cs with
    | nil => intro s K K' hk h; exact hk s h
    | cons c cs ih =>
      intro s K K' hk h
      obtain ⟨dst, op, gd⟩ := c
      have hR : ∀ (s : St) (r : ARes), cR P true cs K s dst r → cR P true cs K' s dst r := by
        intro s r h
        unfold cR at h ⊢
        split at h
        · exact ⟨h.1, h.2.1, ih _ _ _ hk h.2.2⟩
        · exact h.elim
      have hO : ∀ s : St, cO P true cs K s dst op → cO P true cs K' s dst op := by
        intro s h
        unfold cO at h ⊢
        split at h
        · split at h
          · exact hR _ _ h
          · split at h
            · obtain ⟨v, u, h1, h2, h3⟩ := h
              exact ⟨v, u, h1, h2, ih _ _ _ hk h3⟩
            · exact h.elim
          · exact h.elim
        · exact hR _ _ h
      cases gd with
      | none => rw [creg_op] at h ⊢; exact hO s h
      | some p =>
        obtain ⟨d, want⟩ := p
        rw [creg_gd] at h ⊢
        unfold cG at h ⊢
        split at h
        · exact ⟨fun e => hO _ (h.1 e), fun e => ih _ _ _ hk (h.2 e)⟩
        · exact ⟨h.1, ih _ _ _ hk h.2⟩
        · exact h.elim
  exact mono cs1 st _ _ (fun s hs => creg_areg _ cs2 s hc2 hs) h2
end
end Go.Proofs.Ytpaccfeiaekacaa.Vs

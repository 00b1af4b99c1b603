import Derived.Test.YtpaccfeiaekacaaVsD
namespace Go.Proofs.Ytpaccfeiaekacaa.Vs
set_option linter.unusedVariables false
set_option linter.unusedSimpArgs false
set_option linter.unusedSectionVars false
set_option linter.unnecessarySimpa false
set_option linter.all false
open Go.RowKit
variable {P : Program}
theorem RIc_iff {w : World} {I : Nat → Prop} {b : Nat} : ∀ (cs : List AV) (o : Nat), RIc w I b o cs ↔ ∀ j c, cs[j]? = some c → ∃ v, w.cell? ⟨b, o + j, none⟩ = some v ∧ RI w I c v
  | [], o => by simp [RIc]
  | c :: cs, o => by
    rw [RIc, RIc_iff cs (o + 1)]
    constructor
    · rintro ⟨h1, h2⟩ j x hx
      cases j with
      | zero => simp at hx; subst hx; simpa using h1
      | succ j => have := h2 j x (by simpa using hx); rwa [show o + 1 + j = o + (j + 1) by omega] at this
    · intro h
      refine ⟨by simpa using h 0 c rfl, fun j x hx => ?_⟩
      have := h (j + 1) x (by simpa using hx)
      rwa [show o + (j + 1) = o + 1 + j by omega] at this
theorem Rcs_iff {w : World} {I : Nat → Prop} {β : Beta} {b : Nat} : ∀ (cs : List AV) (o : Nat), Rcs w I β b o cs ↔ ∀ j c, cs[j]? = some c → ∃ v, w.cell? ⟨b, o + j, none⟩ = some v ∧ Rv1 w I β c v
  | [], o => by simp [Rcs]
  | c :: cs, o => by
    rw [Rcs, Rcs_iff cs (o + 1)]
    constructor
    · rintro ⟨h1, h2⟩ j x hx
      cases j with
      | zero => simp at hx; subst hx; simpa using h1
      | succ j => have := h2 j x (by simpa using hx); rwa [show o + 1 + j = o + (j + 1) by omega] at this
    · intro h
      refine ⟨by simpa using h 0 c rfl, fun j x hx => ?_⟩
      have := h (j + 1) x (by simpa using hx)
      rwa [show o + (j + 1) = o + 1 + j by omega] at this
theorem RIe_iff {w : World} {I : Nat → Prop} {b sz : Nat} : ∀ (xs : List (List AV)) (o : Nat), RIe w I b sz o xs ↔ ∀ i x, xs[i]? = some x → x.length = sz ∧ RIc w I b (o + i * sz) x
  | [], o => by simp [RIe]
  | y :: ys, o => by
    constructor
    · intro h i x hx; exact RIe_get _ _ _ _ h hx
    · intro h
      rw [RIe, RIe_iff ys (o + sz)]
      have h0 := h 0 y rfl
      refine ⟨h0.1, by simpa using h0.2, fun i x hx => ?_⟩
      have := h (i + 1) x (by simpa using hx)
      rwa [show o + (i + 1) * sz = o + sz + i * sz by rw [Nat.add_mul]; omega] at this
theorem Rv1s_get {w : World} {I : Nat → Prop} {β : Beta} : ∀ (cs : List AV) (vs : List Value), Rv1s w I β cs vs → cs.length = vs.length ∧ ∀ (j : Nat) c, cs[j]? = some c → ∃ v, vs[j]? = some v ∧ Rv1 w I β c v
  | [], _, h => by cases h; simp
  | c :: cs, _, h => by
    obtain ⟨v, vs', rfl, h1, h2⟩ := h
    obtain ⟨h3, h4⟩ := Rv1s_get cs vs' h2
    refine ⟨by simp [h3], fun j x hx => ?_⟩
    cases j with
    | zero => simp at hx; subst hx; exact ⟨v, rfl, h1⟩
    | succ j => simpa using h4 j x (by simpa using hx)
theorem Rv1s_mk {w : World} {I : Nat → Prop} {β : Beta} : ∀ (cs : List AV) (vs : List Value), cs.length = vs.length → (∀ (j : Nat) c v, cs[j]? = some c → vs[j]? = some v → Rv1 w I β c v) → Rv1s w I β cs vs
  | [], [], _, _ => rfl
  | c :: cs, v :: vs, hl, h => ⟨v, vs, rfl, h 0 c v rfl rfl, Rv1s_mk cs vs (by simpa using hl) fun j x y hx hy => h (j + 1) x y (by simpa using hx) (by simpa using hy)⟩
theorem RI_one {w : World} {I : Nat → Prop} : ∀ (c : AV) (v : Value), RI w I c v → v.oneCell' = true
  | .g _, _, h => by rw [RI] at h; obtain ⟨rfl, h⟩ := h; exact h
  | .s _, _, h => by rw [RI] at h; subst h; rfl
  | .sl _ _, _, h => by rw [RI] at h; obtain ⟨a, cap, rfl, -⟩ := h; rfl
  | .agg .., _, h | .ot .., _, h | .arr .., _, h | .ptr .., _, h | .eptr .., _, h | .ip .., _, h | .fn .., _, h | .tup .., _, h | .undef, _, h => by simp [RI] at h
theorem Rv1_one {w : World} {I : Nat → Prop} {β : Beta} : ∀ (c : AV) (v : Value), isOne c = true → Rv1 w I β c v → v.oneCell' = true
  | .g _, _, h1, h => by cases h; exact h1
  | .s _, _, _, h => by cases h; rfl
  | .sl _ _, _, _, h => RI_one _ _ h
  | .arr .., _, _, h => by obtain ⟨bl, -, -, h | ⟨-, a, h⟩⟩ := h <;> subst h <;> rfl
  | .ptr .., _, _, h => by obtain ⟨bl, -, rfl⟩ := h; rfl
  | .eptr .., _, _, h => by obtain ⟨bl, -, rfl⟩ := h; rfl
  | .ip .., _, _, h => by obtain ⟨b, o, rfl, -⟩ := h; rfl
  | .fn .., _, _, h => by obtain ⟨vs, us, rfl, -⟩ := h; rfl
  | .agg .., _, h, _ | .ot .., _, h, _ | .tup .., _, h, _ | .undef, _, h, _ => by simp [isOne] at h
/-- The cells of a value that may be stored. -/
theorem valCells_spec {w : World} {I : Nat → Prop} {β : Beta} {v : AV} {x : Value} {cs : List AV} (h : valCells v = some cs) (hx : Rv w I β v x) (h1 : cs.all isOne = true) :
    Rv1s w I β cs x.cells.toList ∧ ∀ y ∈ x.cells.toList, y.oneCell' = true := by
  have one : ∀ (c : AV) (y : Value), isOne c = true → Rv1 w I β c y → Rv1s w I β [c] y.cells.toList ∧ ∀ z ∈ y.cells.toList, z.oneCell' = true := by
    intro c y hc hy
    have ho := Rv1_one c y hc hy
    have : y.cells = #[y] := by cases y <;> first | rfl | simp [Value.oneCell'] at ho
    rw [this]
    exact ⟨⟨y, [], rfl, hy, rfl⟩, by simpa using ho⟩
  have all : ∀ (cs : List AV) (vs : List Value), cs.all isOne = true → Rv1s w I β cs vs → ∀ y ∈ vs, y.oneCell' = true := by
    intro cs
    induction cs with
    | nil => intro vs _ h; cases h; simp
    | cons c cs ih =>
      intro vs h1 h
      obtain ⟨v, vs', rfl, h2, h3⟩ := h
      simp at h1
      intro y hy
      simp at hy
      rcases hy with rfl | hy
      · exact Rv1_one c _ h1.1 h2
      · exact ih vs' (by simpa using h1.2) h3 y hy
  cases v with
  | agg l =>
    cases h
    obtain ⟨vs, rfl, h2⟩ := hx
    exact ⟨h2, all _ _ h1 h2⟩
  | tup _ => cases h
  | undef => cases h
  | ot _ _ => cases h
  | g v => cases h; exact one _ _ (by simpa using h1) hx
  | s v => cases h; exact one _ _ (by simpa using h1) hx
  | sl s v => cases h; exact one _ _ (by simpa using h1) hx
  | arr s v _ => cases h; exact one _ _ (by simpa using h1) hx
  | ptr s v => cases h; exact one _ _ (by simpa using h1) hx
  | eptr s v _ => cases h; exact one _ _ (by simpa using h1) hx
  | ip s => cases h; exact one _ _ (by simpa using h1) hx
  | fn s v _ => cases h; exact one _ _ (by simpa using h1) hx
theorem setCells_get (cs : List AV) (off : Nat) (new : List AV) (h : off + new.length ≤ cs.length) (j : Nat) :
    (setCells cs off new)[j]? = if off ≤ j ∧ j < off + new.length then new[j - off]? else cs[j]? := by
  have gen : (cs.take off ++ new ++ cs.drop (off + new.length))[j]? = if off ≤ j ∧ j < off + new.length then new[j - off]? else cs[j]? := by
    by_cases h1 : j < off
    · rw [List.append_assoc, List.getElem?_append_left (by simp; omega), List.getElem?_take, if_pos h1, if_neg (by omega)]
    · by_cases h2 : j < off + new.length
      · rw [List.append_assoc, List.getElem?_append_right (by simp; omega), List.getElem?_append_left (by simp; omega), if_pos (by omega)]
        congr 1; simp; omega
      · rw [List.getElem?_append_right (by simp; omega), if_neg (by omega), List.getElem?_drop]
        congr 1; simp; omega
  unfold setCells
  split
  · rename_i v
    simp at h
    rw [List.getElem?_set]
    by_cases h1 : off = j
    · subst h1; simp; omega
    · rw [if_neg h1, if_neg (by simp; omega)]
  · exact gen
theorem setCells_length (cs : List AV) (off : Nat) (new : List AV) (h : off + new.length ≤ cs.length) : (setCells cs off new).length = cs.length := by
  unfold setCells
  split
  · simp
  · simp; omega
theorem evo_setRow (w : World) (g : Nat) (cs : Array Value) (S : Nat → Prop) (hS : S g) : Evo S w (w.setRow g cs) :=
  ⟨rfl, rfl, rfl, by simp [World.setRow], fun b _ hn => setRow_other w g b cs (by rintro rfl; exact hn hS)⟩
/-- What an operation that gives a value must do. -/
def Good (P : Program) (C : Cx) (st : St) (a : Act) (w : World) (s : Sem Value) (v : AV) (u : Ups) : Prop :=
  ∃ y w' I' β' φ', s.run P w = .ok y w' ∧ Rv w' I' β' v y ∧ Conc C { st with ob := updL st.ob u } a w' I' β' φ'
section
variable {C : Cx} {st : St} {a : Act} {w : World} {I : Nat → Prop} {β : Beta} {φ : Nat → List Nat}
theorem good_pure (hC : Conc C st a w I β φ) {s : Sem Value} {v : AV} {y : Value} (hr : s.run P w = .ok y w) (hv : Rv w I β v y) : Good P C st a w s v [] :=
  ⟨y, w, I, β, φ, hr, hv, hC⟩
/-- A new variable. -/
theorem newVar_sound (hC : Conc C st a w I β φ) {nm : Nat} (hn : st.ob nm = none) (t : TypeId) (x : Value) {cs : List AV} (hr : Rv1s w I β cs x.cells.toList) :
    Good P C st a w (do pure (.pointer (some (← newVar t x)))) (.ptr nm 0) [(nm, .cells cs)] := by
  obtain ⟨hl, hg⟩ := Rv1s_get _ _ hr
  refine ⟨.pointer (some ⟨w.heap.size, 0, none⟩), w.alloc (.cells x.cells t), I, upd β nm (some ⟨w.heap.size, 0, 0, cs.length⟩), upd φ nm [w.heap.size], ?_, ?_, ?_⟩
  · simp [newVar, newRow]
  · exact ⟨_, upd_same _ _ _, rfl⟩
  · refine hC.new hn _ _ _ fun I' hI => ⟨_, upd_same _ _ _, rfl, ⟨x.cells, t, heap_alloc_new _ _, by simp [hl]⟩, ?_⟩
    rw [Rcs_iff]
    intro j c hc
    obtain ⟨v, hv, hrv⟩ := hg j c hc
    refine ⟨v, ?_, Rv1_mono hI (fun b hb => heap_alloc_old _ _ (hC.immLt b hb)) (fun n bl hb => ?_) c v hrv⟩
    · simp only [World.cell?, heap_alloc_new]
      simpa using hv
    · rw [upd_other]
      · exact hb
      · rintro rfl; rw [hC.dom _ hn] at hb; cases hb
theorem Rv1s_cv : ∀ (l : List Value), Rv1s w I β (l.map cv) l
  | [] => rfl
  | v :: l => ⟨v, l, rfl, by cases v <;> first | rfl | simp [cv, Rv1, Rv0], Rv1s_cv l⟩
theorem alloc_sound (hC : Conc C st a w I β φ) {nm : Nat} {t : TypeId} {T : TI} (hT : ti P t = some T) (hn : st.ob nm = none) :
    Good P C st a w (Instr.alloc t true (.tuple #[])) (.ptr nm 0) [(nm, .cells T.zero)] := by
  obtain ⟨d, i, z, hd, hi, hz, rfl⟩ := ti_spec hT
  obtain ⟨y, w', I', β', φ', h1, h2, h3⟩ := newVar_sound (P := P) hC hn t z (Rv1s_cv z.cells.toList)
  refine ⟨y, w', I', β', φ', ?_, h2, h3⟩
  simpa [Instr.alloc, zeroValue, typeInfo, hi, hz] using h1
theorem store_cells (hC : Conc C st a w I β φ) {n off : Nat} {cs new : List AV} (hob : st.ob n = some (.cells cs)) (x y : Value) {t : TypeId} {i : TypeInfo} (hi : P.info? t = some i) (hx : Rv w I β (.ptr n off) x)
    (hsz : new.length = i.size) (hfit : off + new.length ≤ cs.length) (hr : Rv1s w I β new y.cells.toList) (h1 : ∀ z ∈ y.cells.toList, z.oneCell' = true) :
    ∃ w', (Instr.storeAt t x y).run P w = .ok () w' ∧ Conc C { st with ob := upd st.ob n (some (.cells (setCells cs off new))) } a w' I β φ := by
  obtain ⟨bl, hb, rfl⟩ := hx
  obtain ⟨bl', hb', hφ, ⟨arr, ty, hh, hsize⟩, hrc⟩ := hC.ob _ _ hob
  rw [hb] at hb'; cases hb'
  obtain ⟨hl, hg⟩ := Rv1s_get _ _ hr
  have hrun := run_storeCells_at P bl.b (bl.o + off) ty y.cells.toList 0 arr w hh (by simp at hl ⊢; omega) h1
  refine ⟨_, ?_, hC.write (w' := w.setRow bl.b (arr.toList.take (bl.o + off + 0) ++ y.cells.toList ++ arr.toList.drop (bl.o + off + 0 + y.cells.toList.length)).toArray) _ (by rw [hob]; simp) (by simp) (hC.wok n _ hob rfl) ?_ ?_⟩
  · have hs : y.cells.size = i.size := by have := hl; simp at this; omega
    simp [Instr.storeAt, Instr.sureAddr, storeVar, sizeOf, typeInfo, hi, hs, hrun]
  · exact evo_setRow _ _ _ _ (by rw [hφ]; simp)
  · have hnew := setRow_heap w bl.b arr (arr.toList.take (bl.o + off + 0) ++ y.cells.toList ++ arr.toList.drop (bl.o + off + 0 + y.cells.toList.length)).toArray ty (0, 0) hh
    refine ⟨bl, hb, hφ, ⟨_, ty, hnew, ?_⟩, ?_⟩
    · rw [setCells_length _ _ _ hfit]
      simp at hl ⊢; omega
    · have hev : ∀ b, I b → (w.setRow bl.b (arr.toList.take (bl.o + off + 0) ++ y.cells.toList ++ arr.toList.drop (bl.o + off + 0 + y.cells.toList.length)).toArray).heap[b]? = w.heap[b]? := fun b hb' => setRow_other w bl.b b _ (by rintro rfl; exact hC.nimm n _ (by rw [hφ]; simp) hb')
      rw [Rcs_iff] at hrc ⊢
      intro j c hc
      rw [setCells_get _ _ _ hfit] at hc
      simp only [World.cell?, hnew]
      split at hc
      · rename_i hj
        obtain ⟨v, hv, hrv⟩ := hg _ _ hc
        refine ⟨v, ?_, Rv1_mono (fun _ h => h) hev (fun _ _ h => h) c v hrv⟩
        simp only [Option.isSome_none, Bool.false_eq_true, if_false, List.getElem?_toArray]
        rw [List.append_assoc, List.getElem?_append_right (by simp; omega), List.getElem?_append_left (by simp at hl ⊢; omega)]
        rw [← hv]; congr 1; simp; omega
      · rename_i hj
        obtain ⟨v, hv, hrv⟩ := hrc j c hc
        refine ⟨v, ?_, Rv1_mono (fun _ h => h) hev (fun _ _ h => h) c v hrv⟩
        simp only [World.cell?, hh, Option.isSome_none, Bool.false_eq_true, if_false] at hv
        simp only [Option.isSome_none, Bool.false_eq_true, if_false, List.getElem?_toArray]
        by_cases h2 : j < off
        · rw [List.append_assoc, List.getElem?_append_left (by simp; have := (Array.getElem?_eq_some_iff.1 hv).1; omega), List.getElem?_take, if_pos (by omega)]
          simpa using hv
        · have hlv := (Array.getElem?_eq_some_iff.1 hv).1
          rw [List.getElem?_append_right (by simp at hl ⊢; omega), List.getElem?_drop]
          rw [← hv, ← Array.getElem?_toList]
          congr 1; simp at hl ⊢; omega
end
end Go.Proofs.Ytpaccfeiaekacaa.Vs

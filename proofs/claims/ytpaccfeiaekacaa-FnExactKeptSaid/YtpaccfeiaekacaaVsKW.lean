import Derived.Test.YtpaccfeiaekacaaVsO
namespace Go.Proofs.Ytpaccfeiaekacaa.Vs
set_option linter.unusedVariables false
set_option linter.unusedSimpArgs false
set_option linter.unusedSectionVars false
set_option linter.unnecessarySimpa false
set_option linter.all false
open Go.RowKit
variable {P : Program}
/-! ### Rows that may be written, whose cells may name rows -/
def R1 (w : World) (I : Nat → Prop) (β : Beta) (c : AV) (v : Value) : Prop := Rv1 w I β c v ∧ v.oneCell' = true
theorem R1_mono {w w' : World} {I I' : Nat → Prop} {β β' : Beta} (hI : ∀ b, I b → I' b) (hw : ∀ b, I b → w'.heap[b]? = w.heap[b]?) (hβ : ∀ n bl, β n = some bl → β' n = some bl) (c : AV) (v : Value) (h : R1 w I β c v) : R1 w' I' β' c v := ⟨Rv1_mono hI hw hβ c v h.1, h.2⟩
theorem RJc_iff {w : World} {I : Nat → Prop} {β : Beta} {b : Nat} : ∀ (cs : List AV) (o : Nat), RJc w I β b o cs ↔ ∀ (j : Nat) c, cs[j]? = some c → ∃ v, w.cell? ⟨b, o + j, none⟩ = some v ∧ R1 w I β c v
  | [], _ => by simp [RJc]
  | c :: cs, o => by
    constructor
    · rintro ⟨⟨v, h1, h2⟩, h3⟩ j d hd
      cases j with
      | zero => simp at hd; subst hd; exact ⟨v, by simpa using h1, h2⟩
      | succ j => have := (RJc_iff cs (o + 1)).1 h3 j d (by simpa using hd); rwa [show o + 1 + j = o + (j + 1) by omega] at this
    · intro h
      refine ⟨?_, (RJc_iff cs (o + 1)).2 fun j d hd => ?_⟩
      · obtain ⟨v, h1, h2⟩ := h 0 c rfl; exact ⟨v, by simpa using h1, h2⟩
      · have := h (j + 1) d (by simpa using hd); rwa [show o + (j + 1) = o + 1 + j by omega] at this
theorem RJe_iff {w : World} {I : Nat → Prop} {β : Beta} {b sz : Nat} : ∀ (xs : List (List AV)) (o : Nat), RJe w I β b sz o xs ↔ ∀ (i : Nat) x, xs[i]? = some x → x.length = sz ∧ RJc w I β b (o + i * sz) x
  | [], _ => by simp [RJe]
  | x :: xs, o => by
    constructor
    · intro h i y hy; exact RJe_get _ _ _ _ h hy
    · intro h
      refine ⟨(h 0 x rfl).1, by simpa using (h 0 x rfl).2, (RJe_iff xs (o + sz)).2 fun i y hy => ?_⟩
      have := h (i + 1) y (by simpa using hy)
      rwa [show o + (i + 1) * sz = o + sz + i * sz by rw [Nat.add_mul]; omega] at this
/-- The values of a row of elements. -/
theorem RJe_vals {w : World} {I : Nat → Prop} {β : Beta} {b sz : Nat} : ∀ (xs : List (List AV)) (o : Nat), RJe w I β b sz o xs →
    ∃ vs : List Value, vs.length = xs.length * sz ∧ (∀ (j : Nat) v, vs[j]? = some v → w.cell? ⟨b, o + j, none⟩ = some v) ∧ (∀ v ∈ vs, v.oneCell' = true) ∧
      ∀ (i : Nat) x, xs[i]? = some x → x.length = sz ∧ ∀ (j : Nat) c, x[j]? = some c → ∃ v, vs[i * sz + j]? = some v ∧ R1 w I β c v
  | [], o, _ => ⟨[], by simp, by simp, by simp, by simp⟩
  | x :: xs, o, h => by
    obtain ⟨h1, h2, h3⟩ := h
    obtain ⟨vs, hl, hc, ho, hx⟩ := RJe_vals xs (o + sz) h3
    have hcs : ∀ (cs : List AV) (o : Nat), RJc w I β b o cs → ∃ us : List Value, us.length = cs.length ∧ (∀ (j : Nat) v, us[j]? = some v → w.cell? ⟨b, o + j, none⟩ = some v) ∧ (∀ v ∈ us, v.oneCell' = true) ∧
        ∀ (j : Nat) c, cs[j]? = some c → ∃ v, us[j]? = some v ∧ R1 w I β c v := by
      intro cs
      induction cs with
      | nil => intro o _; exact ⟨[], rfl, by simp, by simp, by simp⟩
      | cons c cs ih =>
        intro o h
        obtain ⟨⟨v, hv, hr⟩, h'⟩ := h
        obtain ⟨us, g1, g2, g3, g4⟩ := ih (o + 1) h'
        refine ⟨v :: us, by simp [g1], ?_, ?_, ?_⟩
        · intro j u hu
          cases j with
          | zero => simp at hu; subst hu; simpa using hv
          | succ j => have := g2 j u (by simpa using hu); rwa [show o + 1 + j = o + (j + 1) by omega] at this
        · intro u hu
          rcases List.mem_cons.1 hu with rfl | hu
          · exact hr.2
          · exact g3 u hu
        · intro j d hd
          cases j with
          | zero => simp at hd; subst hd; exact ⟨v, rfl, hr⟩
          | succ j => simpa using g4 j d (by simpa using hd)
    obtain ⟨us, g1, g2, g3, g4⟩ := hcs x o h2
    refine ⟨us ++ vs, by simp [g1, h1, hl, Nat.add_mul]; omega, ?_, ?_, ?_⟩
    · intro j u hu
      by_cases hj : j < us.length
      · rw [List.getElem?_append_left hj] at hu; exact g2 j u hu
      · rw [List.getElem?_append_right (by omega)] at hu
        have := hc _ u hu
        rwa [show o + sz + (j - us.length) = o + j by omega] at this
    · intro u hu
      rcases List.mem_append.1 hu with hu | hu
      · exact g3 u hu
      · exact ho u hu
    · intro i y hy
      cases i with
      | zero =>
        simp at hy; subst hy
        refine ⟨h1, fun j c hc => ?_⟩
        obtain ⟨v, hv, hr⟩ := g4 j c hc
        refine ⟨v, ?_, hr⟩
        rw [Nat.zero_mul, Nat.zero_add, List.getElem?_append_left (List.getElem?_eq_some_iff.1 hv).1]
        exact hv
      | succ i =>
        obtain ⟨k1, k2⟩ := hx i y (by simpa using hy)
        refine ⟨k1, fun j c hc => ?_⟩
        obtain ⟨v, hv, hr⟩ := k2 j c hc
        refine ⟨v, ?_, hr⟩
        rw [List.getElem?_append_right (by rw [g1, h1, Nat.add_mul]; omega)]
        rw [g1, h1, show (i + 1) * sz + j - sz = i * sz + j by rw [Nat.add_mul]; omega]
        exact hv
def aStoreW (P : Program) (st : St) (t : TypeId) (x v : AV) : ARes :=
  match ti P t, valCells v with
  | some T, some new => match x with
    | .eptr n i f => match st.ob n with
      | some (.win sz xs) => some (new.length = T.size ∧ new.all isOne = true ∧ f + new.length ≤ sz ∧ i < xs.length, .g undef, [(n, .win sz (xs.set i (setCells (xs.getD i []) f new)))])
      | _ => none
    | _ => none
  | _, _ => none
def aNewsW (st : St) (sz : Nat) (x : AV) : Option (Prop × List (List AV)) :=
  match aNews st sz x with
  | some r => some r
  | none => match x with
    | .arr n off len => match st.ob n with
      | some (.win s xs) => if s = sz then some (off + len ≤ xs.length, (xs.drop off).take len) else none
      | _ => none
    | _ => none
def aAppendW (P : Program) (st : St) (nm : Nat) (ts : List TypeId) (s x : AV) : ARes :=
  match ts with
  | [t, u] => match ti P t with
    | some T => match T.kind with
      | .slice e => match ti P e with
        | some E => match aNewsW st E.size x with
          | some (p, ys) => match s with
            | .g (.slice none 0 0) => some (p ∧ (st.ob nm).isNone = true ∧ t = u ∧ 0 < E.size ∧ E.zero.length = E.size ∧ ys.length * E.bytes ≤ 2 ^ 47 ∧ ys.length < 2 ^ 62, .arr nm 0 ys.length, [(nm, .win E.size ys)])
            | .arr n 0 len => match st.ob n with
              | some (.win sz xs) => if sz = E.size then some (p ∧ (st.ob nm).isNone = true ∧ t = u ∧ 0 < E.size ∧ E.zero.length = E.size ∧ len ≤ xs.length ∧ (len + ys.length) * E.bytes ≤ 2 ^ 47 ∧ len + ys.length < 2 ^ 62,
                  .arr nm 0 (len + ys.length), [(n, .dead), (nm, .win E.size (xs.take len ++ ys))]) else none
              | _ => none
            | _ => none
          | none => none
        | none => none
      | _ => none
    | none => none
  | _ => none
def aBuildSliceW (P : Program) (st : St) (nm : Nat) (t : TypeId) (len : Nat) (parts : List (Nat × AV)) : ARes :=
  match ti P t with
  | some T => match T.kind with
    | .slice e => match ti P e with
      | some E => match fillA (fun i => some (i * E.size, E.size)) (List.replicate len E.zero).flatten parts with
        | some cs => some ((st.ob nm).isNone = true ∧ len * E.size ≤ 16777216 ∧ E.zero.length = E.size ∧ cs.all isOne = true, .arr nm 0 len, [(nm, .win E.size (chunks E.size len cs))])
        | none => none
      | none => none
    | _ => none
  | none => none
section
variable {C : Cx} {st : St} {a : Act} {w : World} {I : Nat → Prop} {β : Beta} {φ : Nat → List Nat}
/-- A store into an own row of elements. -/
theorem store_win (hC : Conc C st a w I β φ) {n i f sz : Nat} {xs : List (List AV)} {new' : List AV} (hob : st.ob n = some (.win sz xs)) (x y : Value) {t : TypeId} {inf : TypeInfo} (hi : P.info? t = some inf)
    (hx : Rv w I β (.eptr n i f) x) (hsz : y.cells.size = inf.size) (hl : new'.length = y.cells.toList.length) (hfit : f + new'.length ≤ sz) (hlt : i < xs.length)
    (hr : ∀ (j : Nat) c, new'[j]? = some c → ∃ v, y.cells.toList[j]? = some v ∧ R1 w I β c v) (h1 : ∀ z ∈ y.cells.toList, z.oneCell' = true) :
    ∃ w', (Instr.storeAt t x y).run P w = .ok () w' ∧ Conc C { st with ob := upd st.ob n (some (.win sz (xs.set i (setCells (xs.getD i []) f new')))) } a w' I β φ := by
  obtain ⟨bl, hb, rfl⟩ := hx
  obtain ⟨bl', hb', rfl, h2, h3, h4⟩ := hC.ob _ _ hob
  rw [hb] at hb'; cases hb'
  rcases h4 with ⟨h4, -⟩ | ⟨hφ, ⟨arr, ty, hh, hsize⟩, hrc⟩
  · omega
  rw [h2, Nat.zero_add]
  have hbig : i * bl.sz + bl.sz ≤ bl.cap * bl.sz := by
    have : (i + 1) * bl.sz ≤ bl.cap * bl.sz := Nat.mul_le_mul_right _ (by omega)
    rwa [Nat.add_mul, Nat.one_mul] at this
  have hrun := run_storeCells_at P bl.b (i * bl.sz + f) ty y.cells.toList 0 arr w hh (by omega) h1
  have hnew := setRow_heap w bl.b arr (arr.toList.take (i * bl.sz + f + 0) ++ y.cells.toList ++ arr.toList.drop (i * bl.sz + f + 0 + y.cells.toList.length)).toArray ty (0, 0) hh
  refine ⟨_, ?_, hC.write (w' := w.setRow bl.b (arr.toList.take (i * bl.sz + f + 0) ++ y.cells.toList ++ arr.toList.drop (i * bl.sz + f + 0 + y.cells.toList.length)).toArray) _ (by rw [hob]; simp) (by simp) (hC.wok n _ hob rfl) ?_ ?_⟩
  · simp [Instr.storeAt, Instr.sureAddr, storeVar, sizeOf, typeInfo, hi, hsz, hrun]
  · exact evo_setRow _ _ _ _ (by rw [hφ]; simp)
  · refine ⟨bl, hb, rfl, h2, by simpa using h3, .inr ⟨hφ, ⟨_, ty, hnew, by simp; omega⟩, ?_⟩⟩
    have hev : ∀ b, I b → (w.setRow bl.b (arr.toList.take (i * bl.sz + f + 0) ++ y.cells.toList ++ arr.toList.drop (i * bl.sz + f + 0 + y.cells.toList.length)).toArray).heap[b]? = w.heap[b]? := fun b hb' => setRow_other w bl.b b _ (by rintro rfl; exact hC.nimm n _ (by rw [hφ]; simp) hb')
    rw [RJe_iff] at hrc ⊢
    have hspl : ∀ k, (w.setRow bl.b (arr.toList.take (i * bl.sz + f + 0) ++ y.cells.toList ++ arr.toList.drop (i * bl.sz + f + 0 + y.cells.toList.length)).toArray).cell? ⟨bl.b, k, none⟩ =
        if i * bl.sz + f ≤ k ∧ k < i * bl.sz + f + y.cells.toList.length then y.cells.toList[k - (i * bl.sz + f)]? else arr[k]? := by
      intro k
      rw [cell_row hnew, List.getElem?_toArray, splice_get _ _ _ (by simp only [Array.length_toList] at hl ⊢; omega)]
      simp only [Nat.zero_add, Nat.add_zero, Array.getElem?_toList]
    intro k z hz
    rw [List.getElem?_set] at hz
    by_cases hk : i = k
    · subst hk
      rw [if_pos rfl, if_pos hlt] at hz
      cases hz
      have hxi : xs[i]? = some xs[i] := List.getElem?_eq_getElem hlt
      obtain ⟨hl1, hr1⟩ := hrc i _ hxi
      rw [List.getD_eq_getElem?_getD, hxi, Option.getD_some]
      refine ⟨by rw [setCells_length _ _ _ (by omega)]; exact hl1, ?_⟩
      rw [RJc_iff] at hr1 ⊢
      intro j c hc
      rw [setCells_get _ _ _ (by omega)] at hc
      rw [hspl]
      split at hc
      · rename_i hj
        obtain ⟨v, hv, hrv⟩ := hr _ _ hc
        refine ⟨v, ?_, R1_mono (fun _ h => h) hev (fun _ _ h => h) c v hrv⟩
        rw [if_pos (by omega), ← hv]
        congr 1; omega
      · rename_i hj
        obtain ⟨v, hv, hrv⟩ := hr1 j c hc
        refine ⟨v, ?_, R1_mono (fun _ h => h) hev (fun _ _ h => h) c v hrv⟩
        rw [if_neg (by omega)]
        rwa [cell_row hh] at hv
    · rw [if_neg hk] at hz
      obtain ⟨hl1, hr1⟩ := hrc k z hz
      refine ⟨hl1, ?_⟩
      rw [RJc_iff] at hr1 ⊢
      intro j c hc
      obtain ⟨v, hv, hrv⟩ := hr1 j c hc
      refine ⟨v, ?_, R1_mono (fun _ h => h) hev (fun _ _ h => h) c v hrv⟩
      have hj : j < bl.sz := by rw [← hl1]; exact (List.getElem?_eq_some_iff.1 hc).1
      rw [hspl, if_neg]
      · rwa [cell_row hh] at hv
      · rcases Nat.lt_or_gt_of_ne hk with hlt' | hlt'
        · have : (i + 1) * bl.sz ≤ k * bl.sz := Nat.mul_le_mul_right _ hlt'
          rw [Nat.add_mul, Nat.one_mul] at this
          omega
        · have : (k + 1) * bl.sz ≤ i * bl.sz := Nat.mul_le_mul_right _ hlt'
          rw [Nat.add_mul, Nat.one_mul] at this
          omega
theorem storeW_sound (hC : Conc C st a w I β φ) {t : TypeId} {p q v : AV} {x y : Value} {c : Prop} {u : Ups} (hx : Rv w I β p x) (hy : Rv w I β q y) (h : aStoreW P st t p q = some (c, v, u)) (hc : c) :
    v = .g undef ∧ ∃ w' I' φ', (Instr.storeAt t x y).run P w = .ok () w' ∧ Conc C { st with ob := updL st.ob u } a w' I' β φ' := by
  unfold aStoreW at h
  split at h
  · rename_i T new hT hnew
    obtain ⟨d, i, z, hd, hi, hz, rfl⟩ := ti_spec hT
    split at h
    · rename_i n i' f
      split at h
      · rename_i sz xs hob
        cases h
        obtain ⟨h1, h2, h3, h4⟩ := hc
        obtain ⟨hv1, hv2⟩ := valCells_spec hnew hy h2
        obtain ⟨hl, hg⟩ := Rv1s_get _ _ hv1
        obtain ⟨w', hr', hC''⟩ := store_win hC hob x y hi hx (by simp at h1 hl ⊢; omega) (by simpa using hl) h3 h4 (fun j c hc => by
          obtain ⟨v, hv, hrv⟩ := hg j c hc
          exact ⟨v, hv, hrv, hv2 v (List.mem_of_getElem? hv)⟩) hv2
        exact ⟨rfl, w', I, φ, hr', hC''⟩
      · cases h
    · cases h
  · cases h
/-- A new row of elements in a new block. -/
theorem newWin (hC : Conc C st a w I β φ) {nm sz cap : Nat} {xs : List (List AV)} (hn : st.ob nm = none) (arr : Array Value) (e : TypeId) (hcap : xs.length ≤ cap) (hsz : cap * sz ≤ arr.size)
    (hx : ∀ (i : Nat) x, xs[i]? = some x → x.length = sz ∧ ∀ (j : Nat) c, x[j]? = some c → ∃ v, arr[i * sz + j]? = some v ∧ R1 w I β c v) :
    ∃ β' φ', Conc C { st with ob := upd st.ob nm (some (.win sz xs)) } a (w.alloc (.cells arr e)) I β' φ' ∧ β' nm = some ⟨w.heap.size, 0, sz, cap⟩ := by
  refine ⟨_, _, hC.new hn (.cells arr e) (.win sz xs) ⟨w.heap.size, 0, sz, cap⟩ fun I' hI => ?_, upd_same _ _ _⟩
  refine ⟨_, upd_same _ _ _, rfl, rfl, hcap, .inr ⟨rfl, ⟨arr, e, heap_alloc_new _ _, by simpa using hsz⟩, ?_⟩⟩
  rw [RJe_iff]
  intro i x hxi
  obtain ⟨h1, h2⟩ := hx i x hxi
  refine ⟨h1, ?_⟩
  rw [RJc_iff]
  intro j c hc
  obtain ⟨v, hv, hr⟩ := h2 j c hc
  refine ⟨v, ?_, R1_mono hI (fun b hb => heap_alloc_old _ _ (hC.immLt b hb)) (fun n bl hb => by
    rw [upd_other]
    · exact hb
    · rintro rfl; rw [hC.dom _ hn] at hb; cases hb) c v hr⟩
  rw [cell_row (heap_alloc_new _ _), Nat.zero_add]
  exact hv
/-- A grown row: the old elements, the new ones, and room. -/
theorem grownW_sound (hC : Conc C st a w I β φ) {nm : Nat} (hn : st.ob nm = none) {e : TypeId} {sz : Nat} (z : Array Value) (hz : z.size = sz) {os ns : List Value} {xs ys : List (List AV)} (hol : os.length = xs.length * sz) (hnl : ns.length = ys.length * sz)
    (ho : ∀ (i : Nat) x, xs[i]? = some x → x.length = sz ∧ ∀ (j : Nat) c, x[j]? = some c → ∃ v, os[i * sz + j]? = some v ∧ R1 w I β c v)
    (hy : ∀ (i : Nat) x, ys[i]? = some x → x.length = sz ∧ ∀ (j : Nat) c, x[j]? = some c → ∃ v, ns[i * sz + j]? = some v ∧ R1 w I β c v)
    (cap : Nat) (hcap : xs.length + ys.length ≤ cap) (arr : Array Value) (harr : arr = os.toArray ++ ns.toArray ++ Builtin.zeroCells z (cap - (xs.length + ys.length))) :
    ∃ β' φ', Conc C { st with ob := upd st.ob nm (some (.win sz (xs ++ ys))) } a (w.drew.alloc (.cells arr e)) I β' φ' ∧ β' nm = some ⟨w.heap.size, 0, sz, cap⟩ := by
  have hasz : cap * sz ≤ arr.size := by
    rw [harr]
    simp only [Array.size_append, List.size_toArray, zeroCells_size, hol, hnl, hz]
    rw [← Nat.add_mul, ← Nat.add_mul]
    exact Nat.mul_le_mul_right _ (by omega)
  refine newWin hC.drew hn arr e (by simp; omega) hasz ?_
  intro i x hx
  have hlen : os.length = xs.length * sz := hol
  by_cases hi : i < xs.length
  · rw [List.getElem?_append_left hi] at hx
    obtain ⟨h1, h2⟩ := ho i x hx
    refine ⟨h1, fun j c hc => ?_⟩
    obtain ⟨v, hv, hr⟩ := h2 j c hc
    refine ⟨v, ?_, R1_mono (w := w) (w' := w.drew) (fun _ h => h) (fun _ _ => rfl) (fun _ _ h => h) c v hr⟩
    rw [harr, Array.append_assoc, Array.getElem?_append_left (by simpa using (List.getElem?_eq_some_iff.1 hv).1)]
    simpa using hv
  · rw [List.getElem?_append_right (by omega)] at hx
    obtain ⟨h1, h2⟩ := hy _ x hx
    refine ⟨h1, fun j c hc => ?_⟩
    obtain ⟨v, hv, hr⟩ := h2 j c hc
    refine ⟨v, ?_, R1_mono (w := w) (w' := w.drew) (fun _ h => h) (fun _ _ => rfl) (fun _ _ h => h) c v hr⟩
    have hidx : i * sz + j - os.length = (i - xs.length) * sz + j := by
      have : i * sz = xs.length * sz + (i - xs.length) * sz := by rw [← Nat.add_mul]; congr 1; omega
      rw [hol, this]; omega
    have hge : os.length ≤ i * sz + j := by
      have : xs.length * sz ≤ i * sz := Nat.mul_le_mul_right _ (by omega)
      rw [hol]; omega
    have hvl := (List.getElem?_eq_some_iff.1 hv).1
    rw [harr, Array.append_assoc, Array.getElem?_append_right (by simpa using hge)]
    simp only [List.size_toArray]
    rw [hidx, Array.getElem?_append_left (by simpa using hvl)]
    simpa using hv
theorem newsW_spec (hC : Conc C st a w I β φ) {sz : Nat} {x : AV} {p : Prop} {ys : List (List AV)} (h : aNewsW st sz x = some (p, ys)) (hp : p) {y : Value} (hy : Rv w I β x y) :
    (ys = [] ∧ ∃ a' cap, y = .slice a' 0 cap) ∨ ∃ b o cap, y = .slice (some ⟨b, o, none⟩) ys.length cap ∧ RJe w I β b sz o ys := by
  unfold aNewsW at h
  split at h
  · rename_i r hr
    cases h
    rcases news_spec hC hr hp hy with h | ⟨b, o, cap, h1, h2⟩
    · exact .inl h
    · exact .inr ⟨b, o, cap, h1, RIe_RJe _ _ h2⟩
  · split at h
    · rename_i n off len _
      split at h
      · rename_i s xs hob
        split at h
        · rename_i hs
          cases h
          obtain ⟨bl, hb, hle, hx⟩ := hy
          obtain ⟨bl', hb', h1, h2, h3, h4⟩ := hC.ob _ _ hob
          rw [hb] at hb'; cases hb'
          subst hs; subst h1
          have hlen : ((xs.drop off).take len).length = len := by simp; omega
          rcases hx with rfl | ⟨h5, a', rfl⟩
          · rcases h4 with ⟨h4, -⟩ | ⟨-, -, h4⟩
            · have h6 : len = 0 := by omega
              subst h6
              exact .inl ⟨by simp, _, _, rfl⟩
            · refine .inr ⟨_, _, _, by rw [hlen], ?_⟩
              rw [h2]
              exact RJe_take _ _ len (RJe_drop _ _ off h4)
          · have h6 : len = 0 := by omega
            subst h6
            exact .inl ⟨by simp, _, _, rfl⟩
        · cases h
      · cases h
    · cases h
/-- An own row is handed on to a new name. -/
theorem Conc.renameW (hC : Conc C st a w I β φ) {n nm sz : Nat} {xs zs : List (List AV)} (hob : st.ob n = some (.win sz xs)) (hn : st.ob nm = none) {bl : Bl} (hbl : β n = some bl) {w' : World}
    (hev : Evo (· ∈ φ n) w w') (hro : RO w' I (upd β nm (some bl)) nm (.win sz zs) (φ n)) :
    Conc C { st with ob := upd (upd st.ob n (some .dead)) nm (some (.win sz zs)) } a w' I (upd β nm (some bl)) (upd (upd φ n []) nm (φ n)) := by
  have hne : n ≠ nm := by rintro rfl; rw [hob] at hn; cases hn
  have hβn : β nm = none := hC.dom nm hn
  have hφ : ∀ m b, b ∈ upd (upd φ n []) nm (φ n) m → (m = nm ∧ b ∈ φ n) ∨ (m ≠ nm ∧ m ≠ n ∧ b ∈ φ m) := by
    intro m b hb
    by_cases h1 : m = nm
    · subst h1; rw [upd_same] at hb; exact .inl ⟨rfl, hb⟩
    · rw [upd_other _ _ h1] at hb
      by_cases h2 : m = n
      · subst h2; simp [upd_same] at hb
      · rw [upd_other _ _ h2] at hb; exact .inr ⟨h1, h2, hb⟩
  have hdom : ∀ m, upd (upd st.ob n (some OB.dead)) nm (some (OB.win sz zs)) m = none → m ≠ nm ∧ m ≠ n ∧ st.ob m = none := by
    intro m ho
    by_cases h1 : m = nm
    · subst h1; simp [upd_same] at ho
    · rw [upd_other _ _ h1] at ho
      by_cases h2 : m = n
      · subst h2; simp [upd_same] at ho
      · rw [upd_other _ _ h2] at ho; exact ⟨h1, h2, ho⟩
  refine hC.move (· ∈ φ n) hev (fun b hb => ⟨n, hb, hC.wok n _ hob rfl b hb⟩) (fun _ hb => hb) (fun _ hb => .inl hb) ?_ ?_ ?_ ?_ ?_ ?_ ?_ ?_ ?_
  · intro m bl' hb
    rw [upd_other]
    · exact hb
    · rintro rfl; rw [hβn] at hb; cases hb
  · intro m o ho
    by_cases h1 : m = nm
    · subst h1
      simp only [upd_same, Option.some.injEq] at ho ⊢
      subst ho
      exact .inr hro
    · rw [upd_other _ _ h1] at ho
      by_cases h2 : m = n
      · subst h2
        simp only [upd_same, Option.some.injEq] at ho
        subst ho
        exact .inr (by rw [upd_other _ _ h1, upd_same]; rfl)
      · rw [upd_other _ _ h2] at ho
        exact .inl ⟨ho, by rw [upd_other _ _ h1, upd_other _ _ h2], fun b hb hb' => hC.sep m n h2 b hb hb'⟩
  · intro m ho
    obtain ⟨h1, h2, h3⟩ := hdom m ho
    rw [upd_other _ _ h1]; exact hC.dom m h3
  · intro m ho
    obtain ⟨h1, h2, h3⟩ := hdom m ho
    rw [upd_other _ _ h1, upd_other _ _ h2]; exact hC.fdom m h3
  · intro m k hmk b hb hb'
    rcases hφ m b hb with ⟨rfl, h1⟩ | ⟨h1, h2, h3⟩
    · rcases hφ k b hb' with ⟨rfl, -⟩ | ⟨-, h5, h6⟩
      · exact hmk rfl
      · exact hC.sep n k (Ne.symm h5) b h1 h6
    · rcases hφ k b hb' with ⟨rfl, h4⟩ | ⟨-, -, h6⟩
      · exact hC.sep m n h2 b h3 h4
      · exact hC.sep m k hmk b h3 h6
  · intro m b hb
    rcases hφ m b hb with ⟨-, h1⟩ | ⟨-, -, h3⟩
    · exact hC.nimm n b h1
    · exact hC.nimm m b h3
  · intro m b hb
    have : b < w.heap.size ∧ (C.X b ∨ C.Y b ∨ C.w0.heap.size ≤ b) := by
      rcases hφ m b hb with ⟨-, h1⟩ | ⟨-, -, h3⟩
      · exact hC.flt n b h1
      · exact hC.flt m b h3
    exact ⟨Nat.lt_of_lt_of_le this.1 hev.size, this.2⟩
  · intro m cs ho hwr b hb
    rcases hφ m b hb with ⟨rfl, h1⟩ | ⟨h1, h2, h3⟩
    · exact hC.wok n _ hob rfl b h1
    · rw [upd_other _ _ h1, upd_other _ _ h2] at ho
      exact hC.wok m cs ho hwr b h3
  · intro m s ys ho b hb
    rcases hφ m b hb with ⟨rfl, h1⟩ | ⟨h1, h2, h3⟩
    · simp [upd_same] at ho
    · rw [upd_other _ _ h1, upd_other _ _ h2] at ho
      exact hC.fnew m _ _ ho b h3
/-- A name that has no block of its own (an empty row). -/
theorem Conc.newEmptyW (hC : Conc C st a w I β φ) {nm sz : Nat} (hn : st.ob nm = none) :
    ∃ β' φ', Conc C { st with ob := upd st.ob nm (some (.win sz [])) } a w I β' φ' ∧ β' nm = some ⟨0, 0, sz, 0⟩ := by
  refine ⟨upd β nm (some ⟨0, 0, sz, 0⟩), φ, ?_, upd_same _ _ _⟩
  have hdom : ∀ m, upd st.ob nm (some (OB.win sz [])) m = none → m ≠ nm ∧ st.ob m = none := by
    intro m ho
    by_cases h1 : m = nm
    · subst h1; simp [upd_same] at ho
    · rw [upd_other _ _ h1] at ho; exact ⟨h1, ho⟩
  refine hC.move (fun _ => False) (Evo.refl _ w) (fun _ hf => hf.elim) (fun _ hb => hb) (fun _ hb => .inl hb) ?_ ?_ ?_ ?_ hC.sep hC.nimm hC.flt ?_ ?_
  · intro m bl' hb
    rw [upd_other]
    · exact hb
    · rintro rfl; rw [hC.dom _ hn] at hb; cases hb
  · intro m o ho
    by_cases h1 : m = nm
    · subst h1
      simp only [upd_same, Option.some.injEq] at ho
      subst ho
      exact .inr ⟨_, upd_same _ _ _, rfl, rfl, by simp, .inl ⟨rfl, hC.fdom _ hn⟩⟩
    · rw [upd_other _ _ h1] at ho
      exact .inl ⟨ho, rfl, fun _ _ hf => hf⟩
  · intro m ho
    rw [upd_other _ _ (hdom m ho).1]; exact hC.dom m (hdom m ho).2
  · intro m ho
    exact hC.fdom m (hdom m ho).2
  · intro m cs ho hwr b hb
    by_cases h1 : m = nm
    · subst h1; rw [hC.fdom _ hn] at hb; simp at hb
    · rw [upd_other _ _ h1] at ho
      exact hC.wok m cs ho hwr b hb
  · intro m s ys ho b hb
    by_cases h1 : m = nm
    · subst h1; rw [hC.fdom _ hn] at hb; simp at hb
    · rw [upd_other _ _ h1] at ho
      exact hC.fnew m _ _ ho b hb
theorem appendW_sound (hC : Conc C st a w I β φ) {nm : Nat} {ts : List TypeId} {ty : TypeId} {s x v : AV} {p y : Value} {c : Prop} {u : Ups} (hs : Rv w I β s p) (hx : Rv w I β x y)
    (h : aAppendW P st nm ts s x = some (c, v, u)) (hc : c) : Good P C st a w (Builtin.append_ ts.toArray ty #[p, y]) v u := by
  unfold aAppendW at h
  split at h
  · rename_i t t'
    split at h
    · rename_i T hT
      obtain ⟨d, i, z, hd, hi, hz, rfl⟩ := ti_spec hT
      simp only at h
      split at h
      · rename_i e hk
        cases d <;> simp only [tkOf, TK.slice.injEq, reduceCtorEq] at hk
        rw [hk] at hd
        split at h
        · rename_i E hE
          obtain ⟨d', i', z', hd', hi', hz', rfl⟩ := ti_spec hE
          simp only at h
          split at h
          · rename_i q ys hnews
            split at h
            · -- nil
              cases h
              obtain ⟨hq, hn, rfl, hpos, hzs, h47, h62⟩ := hc
              have hn' : st.ob nm = none := by simpa using hn
              have hzs' : z'.cells.size = i'.size := by simpa using hzs
              cases hs
              rcases newsW_spec hC hnews hq hx with ⟨rfl, a', cap', rfl⟩ | ⟨b, o, cap', rfl, hr⟩
              · obtain ⟨β', φ', hC', hβ⟩ := hC.newEmptyW (sz := i'.size) hn'
                exact ⟨_, w, I, β', φ', run_append_none w t ty e i' hd hi' none a' 0 0 cap' (Nat.le_refl _), ⟨_, hβ, by simp, .inr ⟨rfl, none, rfl⟩⟩, hC'⟩
              · rcases Nat.eq_zero_or_pos ys.length with h0 | h0
                · have hy0 : ys = [] := List.length_eq_zero_iff.1 h0
                  subst hy0
                  obtain ⟨β', φ', hC', hβ⟩ := hC.newEmptyW (sz := i'.size) hn'
                  exact ⟨_, w, I, β', φ', run_append_none w t ty e i' hd hi' none _ 0 0 cap' (Nat.le_refl _), ⟨_, hβ, by simp, .inr ⟨rfl, none, rfl⟩⟩, hC'⟩
                · obtain ⟨vs, hl, hcell, hone, hel⟩ := RJe_vals _ _ hr
                  have hrun := run_append_nil (P := P) w t ty e i' z' hd hi' hz' ⟨b, o, none⟩ ys.length cap' vs hl (fun j v hv => by rw [Addr.add_lit]; exact hcell j v hv) h0 (by omega) (by omega)
                  obtain ⟨β', φ', hC', hβ⟩ := grownW_sound (e := e) hC hn' z'.cells hzs' (os := []) (xs := []) (ns := vs) (ys := ys) (by simp) hl (by simp) hel (grownCap w ys.length 0 e) (by simpa using grownCap_ge w ys.length 0 e) _ rfl
                  simp only [List.length_nil, Nat.zero_add, List.nil_append, Array.empty_append] at hC'
                  exact ⟨_, _, I, β', φ', hrun, ⟨_, hβ, by simpa using grownCap_ge w ys.length 0 e, .inl (by simp)⟩, hC'⟩
            · -- an own row
              rename_i n len
              split at h
              · rename_i sz xs hob
                split at h
                · rename_i hsz
                  cases h
                  obtain ⟨hq, hn, rfl, hpos, hzs, hlx, h47, h62⟩ := hc
                  have hn' : st.ob nm = none := by simpa using hn
                  have hzs' : z'.cells.size = i'.size := by simpa using hzs
                  obtain ⟨bl, hb, hle, hp⟩ := hs
                  obtain ⟨bl', hb', h1, h2, h3, h4⟩ := hC.ob _ _ hob
                  rw [hb] at hb'; cases hb'
                  subst h1
                  replace hsz : bl.sz = i'.size := hsz
                  rw [Nat.zero_mul, Nat.add_zero, Nat.sub_zero, h2] at hp
                  have hdead : ∀ (w' : World) (β' : Beta) (φ' : Nat → List Nat) (zs : List (List AV)), Conc C { st with ob := upd st.ob nm (some (.win bl.sz zs)) } a w' I β' φ' →
                      Conc C { st with ob := upd (upd st.ob n (some .dead)) nm (some (.win bl.sz zs)) } a w' I β' (upd φ' n []) := by
                    intro w' β' φ' zs hC'
                    have hne : n ≠ nm := by rintro rfl; rw [hob] at hn'; cases hn'
                    have hφ : ∀ m b, b ∈ upd φ' n [] m → m ≠ n ∧ b ∈ φ' m := by
                      intro m b hb
                      by_cases h2 : m = n
                      · subst h2; simp [upd_same] at hb
                      · rw [upd_other _ _ h2] at hb; exact ⟨h2, hb⟩
                    have hdom : ∀ m, upd (upd st.ob n (some OB.dead)) nm (some (OB.win bl.sz zs)) m = none → m ≠ n ∧ upd st.ob nm (some (OB.win bl.sz zs)) m = none := by
                      intro m ho
                      by_cases h1 : m = nm
                      · subst h1; simp [upd_same] at ho
                      · rw [upd_other _ _ h1] at ho ⊢
                        by_cases h2 : m = n
                        · subst h2; simp [upd_same] at ho
                        · rw [upd_other _ _ h2] at ho; exact ⟨h2, ho⟩
                    refine hC'.move (fun _ => False) (Evo.refl _ w') (fun _ hf => hf.elim) (fun _ hb => hb) (fun _ hb => .inl hb) (fun _ _ hb => hb) ?_ (fun m ho => hC'.dom m (hdom m ho).2) ?_ ?_ ?_ ?_ ?_ ?_
                    · intro m o ho
                      by_cases h2 : m = n
                      · subst h2
                        rw [upd_other _ _ hne, upd_same] at ho
                        cases ho
                        exact .inr (by rw [upd_same]; rfl)
                      · refine .inl ⟨?_, upd_other _ _ h2, fun _ _ hf => hf⟩
                        by_cases h1 : m = nm
                        · subst h1; simpa only [upd_same] using ho
                        · rw [upd_other _ _ h1, upd_other _ _ h2] at ho
                          show upd st.ob nm (some (OB.win bl.sz zs)) m = some o
                          rw [upd_other _ _ h1]; exact ho
                    · intro m ho
                      rw [upd_other _ _ (hdom m ho).1]; exact hC'.fdom m (hdom m ho).2
                    · intro m k hmk b hb hb'
                      exact hC'.sep m k hmk b (hφ m b hb).2 (hφ k b hb').2
                    · intro m b hb; exact hC'.nimm m b (hφ m b hb).2
                    · intro m b hb; exact hC'.flt m b (hφ m b hb).2
                    · intro m cs ho hwr b hb
                      obtain ⟨h2, h3⟩ := hφ m b hb
                      refine hC'.wok m cs ?_ hwr b h3
                      show upd st.ob nm (some (OB.win bl.sz zs)) m = some cs
                      by_cases h1 : m = nm
                      · subst h1; simp only [upd_same, Option.some.injEq] at ho ⊢; exact ho
                      · rw [upd_other _ _ h1, upd_other _ _ h2] at ho
                        rw [upd_other _ _ h1]; exact ho
                    · intro m s ys ho b hb
                      obtain ⟨h2, h3⟩ := hφ m b hb
                      refine hC'.fnew m s ys ?_ b h3
                      show upd st.ob nm (some (OB.win bl.sz zs)) m = some (.flat s ys)
                      by_cases h1 : m = nm
                      · subst h1; simpa only [upd_same] using ho
                      · rw [upd_other _ _ h1, upd_other _ _ h2] at ho
                        rw [upd_other _ _ h1]; exact ho
                  have hup : ∀ m bl', β m = some bl' → upd β nm (some bl) m = some bl' := by
                    intro m bl' hm
                    rw [upd_other]
                    · exact hm
                    · rintro rfl; rw [hC.dom _ hn'] at hm; cases hm
                  have hxl : (xs.take len).length = len := by simp; omega
                  have htake : bl.cap = 0 ∨ RJe w I β bl.b bl.sz 0 (xs.take len) := h4.imp (·.1) (fun h => RJe_take _ _ len h.2.2)
                  -- the elements that come
                  have hyy : (ys = [] ∧ ∃ a' cap', y = .slice a' 0 cap') ∨ (0 < ys.length ∧ ∃ b o cap', y = .slice (some ⟨b, o, none⟩) ys.length cap' ∧ RJe w I β b i'.size o ys) := by
                    rcases newsW_spec hC hnews hq hx with h | ⟨b, o, cap', h, hr⟩
                    · exact .inl h
                    · rcases Nat.eq_zero_or_pos ys.length with h0 | h0
                      · exact .inl ⟨List.length_eq_zero_iff.1 h0, _, _, by rw [h, h0]⟩
                      · exact .inr ⟨h0, b, o, cap', h, hr⟩
                  rw [← hsz]
                  rcases hyy with ⟨rfl, a', cap', rfl⟩ | ⟨hy0, b, o, cap', rfl, hr⟩
                  · have hC' := hC.renameW (zs := xs.take len) hob hn' hb (Evo.refl _ w) ⟨bl, upd_same _ _ _, rfl, h2, by simp; omega, h4.imp id fun h => ⟨h.1, h.2.1, RJe_mono (fun _ h => h) (fun _ _ => rfl) hup _ rfl _ _ _ (RJe_take _ _ len h.2.2)⟩⟩
                    rw [List.append_nil]
                    rcases hp with rfl | ⟨h0, a0, rfl⟩
                    · exact ⟨_, w, I, _, _, run_append_none w t ty e i' hd hi' _ a' len bl.cap cap' (by omega), ⟨bl, upd_same _ _ _, by simp; omega, .inl (by simp [h2])⟩, hC'⟩
                    · have hl0 : len = 0 := by omega
                      subst hl0
                      exact ⟨_, w, I, _, _, run_append_none w t ty e i' hd hi' a0 a' 0 0 cap' (by omega), ⟨bl, upd_same _ _ _, by simp, .inr ⟨h0, a0, rfl⟩⟩, hC'⟩
                  · rw [← hsz] at hr
                    obtain ⟨vs, hl, hcell, hone, hel⟩ := RJe_vals _ _ hr
                    have hcell' : ∀ (j : Nat) v, vs[j]? = some v → w.cell? ((⟨b, o, none⟩ : Addr).add j) = some v := fun j v hv => by rw [Addr.add_lit]; exact hcell j v hv
                    by_cases hroom : len + ys.length ≤ bl.cap
                    · rcases hp with rfl | ⟨h0, a0, rfl⟩
                      · rcases h4 with ⟨h4, -⟩ | ⟨hφ, ⟨arr, ety, hh, hsize⟩, hrc⟩
                        · omega
                        · have hbig : len * bl.sz + ys.length * bl.sz ≤ bl.cap * bl.sz := by rw [← Nat.add_mul]; exact Nat.mul_le_mul_right _ hroom
                          have hrun := run_append_room' (P := P) w t ty e ety i' hd hi' bl.b len bl.cap arr hh ⟨b, o, none⟩ ys.length cap' vs (by rw [hl, hsz]) hcell' hone hroom (by rw [← hsz, hl]; omega)
                          have hlen' : (arr.toList.take (len * i'.size)).length = len * bl.sz := by simp; rw [hsz] at hbig hsize ⊢; omega
                          have hnew := setRow_heap w bl.b arr (arr.toList.take (len * i'.size) ++ vs ++ arr.toList.drop (len * i'.size + vs.length)).toArray ety (0, 0) hh
                          have hev : ∀ b, I b → (w.setRow bl.b (arr.toList.take (len * i'.size) ++ vs ++ arr.toList.drop (len * i'.size + vs.length)).toArray).heap[b]? = w.heap[b]? := fun b hb' => setRow_other w bl.b b _ (by rintro rfl; exact hC.nimm n _ (by rw [hφ]; simp) hb')
                          have hspl : ∀ k, (w.setRow bl.b (arr.toList.take (len * i'.size) ++ vs ++ arr.toList.drop (len * i'.size + vs.length)).toArray).cell? ⟨bl.b, k, none⟩ =
                              if len * bl.sz ≤ k ∧ k < len * bl.sz + vs.length then vs[k - len * bl.sz]? else arr[k]? := by
                            intro k
                            have hfit2 : len * i'.size + vs.length ≤ arr.toList.length := by rw [Array.length_toList (xs := arr), hl, ← hsz]; omega
                            rw [cell_row hnew, List.getElem?_toArray, splice_get _ _ _ hfit2, hsz]
                            simp
                          have hro : RO (w.setRow bl.b (arr.toList.take (len * i'.size) ++ vs ++ arr.toList.drop (len * i'.size + vs.length)).toArray) I (upd β nm (some bl)) nm (.win bl.sz (xs.take len ++ ys)) (φ n) := by
                            refine ⟨bl, upd_same _ _ _, rfl, h2, by simp; omega, .inr ⟨hφ, ⟨_, ety, hnew, by simp; omega⟩, ?_⟩⟩
                            refine RJe_append _ _ _ ?_ ?_
                            · rw [RJe_iff]
                              intro i x hxi
                              obtain ⟨k1, k2⟩ := RJe_get _ _ _ _ (RJe_take _ _ len hrc) hxi
                              refine ⟨k1, ?_⟩
                              rw [RJc_iff] at k2 ⊢
                              intro j c hc
                              obtain ⟨v, hv, hrv⟩ := k2 j c hc
                              refine ⟨v, ?_, R1_mono (fun _ h => h) hev hup c v hrv⟩
                              have hj : j < bl.sz := by rw [← k1]; exact (List.getElem?_eq_some_iff.1 hc).1
                              have hi2 : i < len := by have := (List.getElem?_eq_some_iff.1 hxi).1; omega
                              have : (i + 1) * bl.sz ≤ len * bl.sz := Nat.mul_le_mul_right _ hi2
                              rw [Nat.add_mul, Nat.one_mul] at this
                              rw [hspl, if_neg (by omega)]
                              rwa [cell_row hh] at hv
                            · rw [RJe_iff]
                              intro i y hyi
                              obtain ⟨k1, k2⟩ := hel i y hyi
                              refine ⟨k1, ?_⟩
                              rw [RJc_iff]
                              intro j c hc
                              obtain ⟨v, hv, hrv⟩ := k2 j c hc
                              have hvl := (List.getElem?_eq_some_iff.1 hv).1
                              refine ⟨v, ?_, R1_mono (fun _ h => h) hev hup c v hrv⟩
                              rw [hspl, hxl, if_pos (by omega), ← hv]
                              congr 1; omega
                          have hC' := hC.renameW (zs := xs.take len ++ ys) hob hn' hb (evo_setRow w bl.b _ _ (by rw [hφ]; simp)) hro
                          exact ⟨_, _, I, _, _, hrun, ⟨bl, upd_same _ _ _, by omega, .inl (by simp [h2])⟩, hC'⟩
                      · omega
                    · have hns : (∃ os : List Value, os.length = (xs.take len).length * bl.sz ∧ (∀ (j : Nat) v, os[j]? = some v → w.cell? ⟨bl.b, 0 + j, none⟩ = some v) ∧
                          ∀ (i : Nat) x, (xs.take len)[i]? = some x → x.length = bl.sz ∧ ∀ (j : Nat) c, x[j]? = some c → ∃ v, os[i * bl.sz + j]? = some v ∧ R1 w I β c v) := by
                        rcases htake with h0 | h0
                        · have : xs.take len = [] := List.length_eq_zero_iff.1 (by omega)
                          rw [this]
                          exact ⟨[], by simp, by simp, by simp⟩
                        · obtain ⟨os, g1, g2, g3, g4⟩ := RJe_vals _ _ h0
                          exact ⟨os, g1, g2, g4⟩
                      obtain ⟨os, hol, hoc, hoel⟩ := hns
                      obtain ⟨β', φ', hC', hβ⟩ := grownW_sound (e := e) hC hn' z'.cells (hzs'.trans hsz.symm) hol hl hoel hel (grownCap w (len + ys.length) bl.cap e) (by rw [hxl]; exact grownCap_ge w _ _ e) _ rfl
                      have hC'' := hdead _ _ _ _ hC'
                      have hne : n ≠ nm := by rintro rfl; rw [hob] at hn'; cases hn'
                      rw [hxl] at hC'' hol
                      refine ⟨_, _, I, β', _, ?_, ⟨_, hβ, ?_, .inl rfl⟩, hC''⟩
                      · rcases hp with rfl | ⟨h0, a0, rfl⟩
                        · have := run_append_grow (P := P) w t ty e i' z' hd hi' hz' ⟨bl.b, 0, none⟩ len bl.cap os (by rw [hol, hsz]) (fun j v hv => by rw [Addr.add_lit]; exact hoc j v hv) ⟨b, o, none⟩ ys.length cap' vs (by rw [hl, hsz]) hcell' (by omega) (by omega)
                            (growslice_fits (by omega) (by omega))
                          simpa using this
                        · have hl0 : len = 0 := by omega
                          subst hl0
                          have ho0 : os = [] := List.length_eq_zero_iff.1 (by simpa using hol)
                          subst ho0
                          cases a0 with
                          | none =>
                            have := run_append_nil (P := P) w t ty e i' z' hd hi' hz' ⟨b, o, none⟩ ys.length cap' vs (by rw [hl, hsz]) hcell' hy0 (by omega) (by have h := h47; rw [Nat.zero_add] at h; exact Nat.le_trans h (by decide))
                            simpa [← h0] using this
                          | some a0 =>
                            have := run_append_grow (P := P) w t ty e i' z' hd hi' hz' a0 0 0 [] (by simp) (by simp) ⟨b, o, none⟩ ys.length cap' vs (by rw [hl, hsz]) hcell' (by omega) (by omega)
                              (growslice_fits (by omega) (by omega))
                            simpa [← h0] using this
                      · simpa using grownCap_ge w (len + ys.length) bl.cap e
                · cases h
              · cases h
            · cases h
          · cases h
        · cases h
      · cases h
    · cases h
  · cases h
theorem buildSliceW_sound (hC : Conc C st a w I β φ) {nm : Nat} {t : TypeId} {len : Nat} {ps : List (Nat × AV)} {qs : Array (Nat × Value)} {v : AV} {c : Prop} {u : Ups} (hq : RvParts w I β ps qs.toList)
    (h : aBuildSliceW P st nm t len ps = some (c, v, u)) (hc : c) : Good P C st a w (Instr.buildSlice t len qs) v u := by
  unfold aBuildSliceW at h
  split at h
  · rename_i T hT
    obtain ⟨d, i, z, hd, hi, hz, rfl⟩ := ti_spec hT
    simp only at h
    split at h
    · rename_i e hk
      cases d <;> simp only [tkOf, TK.slice.injEq, reduceCtorEq] at hk
      rw [hk] at hd
      split at h
      · rename_i E hE
        obtain ⟨d', i', z', hd', hi', hz', rfl⟩ := ti_spec hE
        simp only at h
        split at h
        · rename_i cs hcs
          cases h
          obtain ⟨hn, h24, hzs, hone⟩ := hc
          have hn' : st.ob nm = none := by simpa using hn
          have hzs' : z'.cells.size = i'.size := by simpa using hzs
          have hr0 : Rv1s w I β (List.replicate len (z'.cells.toList.map cv)).flatten ((Array.range (len * i'.size)).map (z'.cells[· % z'.cells.size]!)).toList := by
            refine Rv1s_mk _ _ (by simp [hzs']) fun j c x hc hx => ?_
            rw [repl_get] at hc
            split at hc
            · rename_i hj
              simp only [List.length_map, Array.length_toList] at hc hj
              rw [Array.getElem?_toList, ← hzs', zeros_get _ _ _ hj] at hx
              rw [List.getElem?_map, Array.getElem?_toList, hx] at hc
              cases hc
              cases x <;> first | rfl | simp [cv, Rv1, Rv0]
            · cases hc
          obtain ⟨A', hA, hr⟩ := fill_sound (w := w) (I := I) (β := β) (fun i x hx => hx) _ _ _ _ _ hcs hq hr0
          obtain ⟨hl, hr'⟩ := Rv1s_get _ _ hr
          have hon := fun c hc => List.all_eq_true.1 hone c hc
          have hAsz : A'.size = len * i'.size := by
            have h1 := (Rv1s_get _ _ hr).1
            have h2 : cs.length = len * i'.size := by
              have : ∀ (ps : List (Nat × AV)) (cs cs' : List AV) (pl : Nat → Option (Nat × Nat)), fillA pl cs ps = some cs' → cs'.length = cs.length := by
                intro ps
                induction ps with
                | nil => intro cs cs' pl h; cases h; rfl
                | cons q ps ih =>
                  intro cs cs' pl h
                  unfold fillA at h
                  split at h
                  · split at h
                    · rename_i hh; rw [ih _ _ _ h]; simp; omega
                    · cases h
                  · cases h
              rw [this _ _ _ _ hcs]; simp [hzs']
            simp only [Array.length_toList] at h1; omega
          obtain ⟨β', φ'', hC'', hβ⟩ := newWin (cap := len) (sz := i'.size) (xs := chunks i'.size len cs) hC hn' A' e (by rw [chunks_length]; omega) (by omega) (fun k x hx => by
              rw [chunks_get] at hx
              split at hx
              · rename_i hk
                cases hx
                have hb : k * i'.size + i'.size ≤ len * i'.size := by
                  have : (k + 1) * i'.size ≤ len * i'.size := Nat.mul_le_mul_right _ hk
                  rwa [Nat.add_mul, Nat.one_mul] at this
                refine ⟨by simp at hl ⊢; omega, fun j c hc => ?_⟩
                rw [List.getElem?_take] at hc
                split at hc
                · rw [List.getElem?_drop] at hc
                  obtain ⟨v, hv, hrv⟩ := hr' _ _ hc
                  exact ⟨v, by simpa using hv, hrv, Rv1_one c v (hon c (List.mem_of_getElem? hc)) hrv⟩
                · cases hc
              · cases hx)
          refine ⟨.slice (some ⟨w.heap.size, 0, none⟩) len len, w.alloc (.cells A' e), I, β', φ'', ?_, ⟨_, hβ, by simp, .inl (by simp)⟩, hC''⟩
          by_cases hpos : len * i'.size = 0
          · have hA0 : (Array.range (len * i'.size)).map (z'.cells[· % z'.cells.size]!) = #[] := by rw [hpos]; simp
            rw [hA0] at hA
            simp [Instr.buildSlice, run_underlying hd, sizeOf, typeInfo, hi', hpos, newRow]
            rw [show Array.map (fun _ => (default : Value)) (Array.range 0) = #[] from by simp, hA]
            simp
          · exact run_buildSlice w t e len qs A' i' z' hd hi' hz' (by omega) hpos hA
        · cases h
      · cases h
    · cases h
  · cases h
end
end Go.Proofs.Ytpaccfeiaekacaa.Vs

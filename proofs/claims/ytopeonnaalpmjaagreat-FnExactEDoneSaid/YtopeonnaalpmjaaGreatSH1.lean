import Derived.Test.YtopeonnaalpmjaaGreatSN3
open Go Go.Proofs Go.Proofs.YtopeonnaalpmjaaGreat.Vs
namespace Go.Proofs.YtopeonnaalpmjaaGreat.Vs
set_option linter.unusedVariables false
set_option linter.unusedSimpArgs false
set_option linter.unusedSectionVars false
set_option linter.unnecessarySimpa false
set_option linter.all false
set_option linter.unusedSimpArgs false
set_option linter.unusedVariables false
set_option maxRecDepth 100000
def zeroInst (id : DtId) : DtInst := ⟨id, -1, -1, 0, zeroCmd, 0, [], false⟩
noncomputable def instAt (l : List DtInst) (id : DtId) : DtInst := (l.find? fun x => eqB x.fId id).getD (zeroInst id)
theorem instAt_found {l : List DtInst} {id : DtId} {i : Nat} (hi : i < l.length) (h : l[i].fId = id) (hb : ∀ (j : Nat) x, j < i → l[j]? = some x → ¬ x.fId = id) : instAt l id = l[i] := by
  have : l.find? (fun x => eqB x.fId id) = some l[i] := by
    rw [List.find?_eq_some_iff_getElem]
    refine ⟨by rw [eqB_true]; exact h, i, hi, rfl, fun j hj => ?_⟩
    have := hb j l[j] hj (List.getElem?_eq_getElem (by omega))
    simp [eqB_ne this]
  rw [instAt, this]; rfl
theorem instAt_none {l : List DtInst} {id : DtId} (hb : ∀ (j : Nat) x, j < l.length → l[j]? = some x → ¬ x.fId = id) : instAt l id = zeroInst id := by
  have : l.find? (fun x => eqB x.fId id) = none := by
    rw [List.find?_eq_none]
    intro x hx
    obtain ⟨j, hj⟩ := List.getElem?_of_mem hx
    have := hb j x (List.getElem?_eq_some_iff.1 hj).1 hj
    simp [eqB_ne this]
  rw [instAt, this]; rfl
def InstSm (x : DtInst) : Prop := x.fCmd.fChunks.length ≤ 1048576 ∧ x.fDeps.length ≤ 1048576 ∧ DtCmd.sz x.fCmd ≤ 1048576
theorem insts_lt {l : List DtInst} (h : InstsP l) : ∀ (d i : Nat) x y, l[i]? = some x → l[i + d + 1]? = some y → idLt x.fId y.fId
  | 0, i, x, y, hx, hy => (h (i + 1) y hy).2 x (by omega) (by simpa using hx)
  | d + 1, i, x, y, hx, hy => by
    have hlt := (List.getElem?_eq_some_iff.1 hy).1
    have hz : l[i + d + 1]? = some l[i + d + 1] := List.getElem?_eq_getElem (by omega)
    have h1 := insts_lt h d i x _ hx hz
    have h2 := (h (i + (d + 1) + 1) y hy).2 l[i + d + 1] (by omega) (by rw [show i + (d + 1) + 1 - 1 = i + d + 1 by omega]; exact hz)
    unfold idLt at h1 h2 ⊢
    omega
theorem insts_inj {l : List DtInst} (h : InstsP l) {x y : DtInst} (hx : x ∈ l) (hy : y ∈ l) (he : x.fId = y.fId) : x = y := by
  obtain ⟨i, hi⟩ := List.getElem?_of_mem hx
  obtain ⟨j, hj⟩ := List.getElem?_of_mem hy
  rcases Nat.lt_trichotomy i j with hlt | rfl | hlt
  · have := insts_lt h (j - i - 1) i x y hi (by rw [show i + (j - i - 1) + 1 = j by omega]; exact hj)
    rw [he] at this; unfold idLt at this; omega
  · rw [hi] at hj; cases hj; rfl
  · have := insts_lt h (i - j - 1) j y x hj (by rw [show j + (i - j - 1) + 1 = i by omega]; exact hi)
    rw [he] at this; unfold idLt at this; omega
theorem instAt_mem {l : List DtInst} (h : InstsP l) {x : DtInst} (hx : x ∈ l) : instAt l x.fId = x := by
  unfold instAt
  cases hf : l.find? (fun y => eqB y.fId x.fId) with
  | none =>
    rw [List.find?_eq_none] at hf
    have := hf x hx
    simp [eqB_self] at this
  | some y =>
    have h1 := List.mem_of_find?_eq_some hf
    have h2 := List.find?_some hf
    rw [eqB_true] at h2
    exact (insts_inj h hx h1 h2.symm).symm
theorem instAt_or (l : List DtInst) (id : DtId) : (instAt l id ∈ l ∧ (instAt l id).fId = id) ∨ (instAt l id).fStatus = 0 := by
  unfold instAt
  cases hf : l.find? (fun y => eqB y.fId id) with
  | none => exact .inr rfl
  | some y =>
    have h2 := List.find?_some hf
    rw [eqB_true] at h2
    exact .inl ⟨List.mem_of_find?_eq_some hf, h2⟩
theorem len_le_of_sub {α : Type} : ∀ (a b : List α), a.Nodup → (∀ x ∈ a, x ∈ b) → a.length ≤ b.length
  | [], _, _, _ => by simp
  | x :: a, b, hn, hs => by
    obtain ⟨b1, b2, rfl⟩ := List.append_of_mem (hs x (by simp))
    rw [List.nodup_cons] at hn
    have := len_le_of_sub a (b1 ++ b2) hn.2 fun y hy => by
      have hyb := hs y (by simp [hy])
      have hne : y ≠ x := fun h => hn.1 (h ▸ hy)
      simp [hne] at hyb
      simpa using hyb
    simp at this ⊢
    omega
theorem len_eq_of_set {α : Type} {a b : List α} (ha : a.Nodup) (hb : b.Nodup) (h : ∀ x, x ∈ a ↔ x ∈ b) : a.length = b.length :=
  Nat.le_antisymm (len_le_of_sub a b ha fun x hx => (h x).1 hx) (len_le_of_sub b a hb fun x hx => (h x).2 hx)
/-- The Ids that a net can bear. -/
def idAt (r s : Nat) : DtId := ⟨(r : Int), (s : Int)⟩
def grid1 (r n : Nat) : List DtId := (List.range n).map fun s => idAt r (s + 1)
def grid (r : Nat) : List DtId := ((List.range r).map fun r => grid1 r 6).flatten
theorem mem_grid {r : Nat} {id : DtId} : id ∈ grid r ↔ 0 ≤ id.fRep ∧ id.fRep < r ∧ 1 ≤ id.fSlot ∧ id.fSlot ≤ 6 := by
  unfold grid grid1 idAt
  simp only [List.mem_flatten, List.mem_map, List.mem_range]
  constructor
  · rintro ⟨_, ⟨q, hq, rfl⟩, h⟩
    simp only [List.mem_map, List.mem_range] at h
    obtain ⟨s, hs, rfl⟩ := h
    simp only
    omega
  · rintro ⟨h1, h2, h3, h4⟩
    refine ⟨_, ⟨id.fRep.toNat, by omega, rfl⟩, ?_⟩
    simp only [List.mem_map, List.mem_range]
    refine ⟨(id.fSlot - 1).toNat, by omega, ?_⟩
    rw [DtId.ext_iff]
    simp only
    omega
theorem grid1_nodup (r n : Nat) : (grid1 r n).Nodup := by
  unfold grid1 List.Nodup
  rw [List.pairwise_map]
  refine (List.nodup_range (n := n)).imp fun h => ?_
  unfold idAt
  intro he
  rw [DtId.ext_iff] at he
  simp only at he
  omega
theorem grid_succ (r : Nat) : grid (r + 1) = grid r ++ grid1 r 6 := by simp [grid, List.range_succ]
theorem grid1_succ (r n : Nat) : grid1 r (n + 1) = grid1 r n ++ [idAt r (n + 1)] := by simp [grid1, List.range_succ]
theorem grid_len : ∀ r, (grid r).length = 6 * r
  | 0 => rfl
  | r + 1 => by rw [grid_succ, List.length_append, grid_len r]; simp [grid1]; omega
theorem grid_nodup : ∀ r, (grid r).Nodup
  | 0 => by simp [grid]
  | r + 1 => by
    rw [grid_succ, List.nodup_append]
    refine ⟨grid_nodup r, grid1_nodup r 6, fun a ha b hb he => ?_⟩
    subst he
    have := mem_grid.1 ha
    unfold grid1 idAt at hb
    simp only [List.mem_map, List.mem_range] at hb
    obtain ⟨s, _, rfl⟩ := hb
    simp only at this
    omega
def CommAt (l : List DtInst) (id : DtId) : Prop := ∃ y ∈ l, y.fId = id ∧ y.fStatus = 3
theorem commAt_iff {l : List DtInst} (h : InstsP l) (id : DtId) : CommAt l id ↔ (instAt l id).fStatus = 3 := by
  constructor
  · rintro ⟨y, hy, rfl, h3⟩
    rw [instAt_mem h hy]; exact h3
  · intro h3
    rcases instAt_or l id with hh | hh
    · exact ⟨_, hh.1, hh.2, h3⟩
    · rw [hh] at h3; cases h3
/-- Committed at the first n nodes. -/
def AllAt (x : DtENet) (n : Nat) (id : DtId) : Prop := ∀ (a : Nat) m, a < n → x.fNodes[a]? = some m → CommAt m.fInsts id
noncomputable def doneI (x : DtENet) (l : List DtInst) : Nat := (l.filter fun i => decB (AllAt x 3 i.fId)).length
noncomputable def doneG (x : DtENet) (l : List DtId) : Nat := (l.filter fun i => decB (AllAt x 3 i)).length
theorem insts_nodup {l : List DtInst} (h : InstsP l) : (l.map fun i => i.fId).Nodup := by
  unfold List.Nodup
  rw [List.pairwise_map, List.pairwise_iff_getElem]
  intro i j hi hj hij he
  have := insts_lt h (j - i - 1) i l[i] l[j] (List.getElem?_eq_getElem hi) (by rw [show i + (j - i - 1) + 1 = j by omega]; exact List.getElem?_eq_getElem hj)
  rw [he] at this; unfold idLt at this; omega
theorem done_eq (x : DtENet) (n : DtENode) (hn : NetP x) (h0 : x.fNodes[0]? = some n) : doneI x n.fInsts = doneG x (grid 3) := by
  have hI := (hn.2.2.1 0 n h0).1.2.2.2.2.1
  have e1 : doneI x n.fInsts = ((n.fInsts.map fun i => i.fId).filter fun i => decB (AllAt x 3 i)).length := by
    rw [List.filter_map, List.length_map]; rfl
  rw [e1]
  unfold doneG
  refine len_eq_of_set ((insts_nodup hI).filter _) ((grid_nodup 3).filter _) fun id => ?_
  simp only [List.mem_filter, decB_true, List.mem_map, mem_grid]
  constructor
  · rintro ⟨⟨i, hi, rfl⟩, h⟩
    obtain ⟨j, hj⟩ := List.getElem?_of_mem hi
    have hid : IdP i.fId := (hI j i hj).1.1
    unfold IdP at hid
    exact ⟨by omega, h⟩
  · rintro ⟨-, h⟩
    obtain ⟨y, hy, h1, -⟩ := h 0 n (by omega) h0
    exact ⟨⟨y, hy, h1⟩, h⟩
end Go.Proofs.YtopeonnaalpmjaaGreat.Vs

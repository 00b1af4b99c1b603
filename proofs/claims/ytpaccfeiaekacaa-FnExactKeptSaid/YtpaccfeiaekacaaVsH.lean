import Derived.Test.YtpaccfeiaekacaaVsG
import Derived.Great.BuildSlice
namespace Go.Proofs.Ytpaccfeiaekacaa.Vs
set_option linter.unusedVariables false
set_option linter.unusedSimpArgs false
set_option linter.unusedSectionVars false
set_option linter.unnecessarySimpa false
set_option linter.all false
open Go.RowKit
variable {P : Program}
theorem fold_splice (off : Nat) : ∀ (l : List Value) (k : Nat) (A : Array Value) (idx : Nat),
    ((l.zipIdx k).foldl (fun cs p => cs.setIfInBounds (off + p.2) p.1) A)[idx]? = if off + k ≤ idx ∧ idx < off + k + l.length ∧ idx < A.size then l[idx - (off + k)]? else A[idx]?
  | [], k, A, idx => by simp; intro h1 h2; omega
  | v :: l, k, A, idx => by
    simp only [List.zipIdx_cons, List.foldl_cons]
    rw [fold_splice off l (k + 1)]
    simp only [Array.size_setIfInBounds, List.length_cons, Array.getElem?_setIfInBounds]
    by_cases h1 : idx = off + k
    · subst h1
      by_cases h2 : off + k < A.size
      · rw [if_neg (by omega), if_pos (by omega)]; simp [h2]
      · rw [if_neg (by omega)]; simp [h2]
    · by_cases h2 : off + (k + 1) ≤ idx ∧ idx < off + (k + 1) + l.length ∧ idx < A.size
      · rw [if_pos h2, if_pos (by omega)]
        rw [show idx - (off + k) = (idx - (off + (k + 1))) + 1 by omega, List.getElem?_cons_succ]
      · rw [if_neg h2, if_neg (by omega), if_neg (by omega)]
theorem fold_size (off : Nat) : ∀ (l : List (Value × Nat)) (A : Array Value), (l.foldl (fun cs p => cs.setIfInBounds (off + p.2) p.1) A).size = A.size
  | [], _ => rfl
  | p :: l, A => by rw [List.foldl_cons, fold_size off l]; simp
section
variable {w : World} {I : Nat → Prop} {β : Beta}
def RvParts (w : World) (I : Nat → Prop) (β : Beta) : List (Nat × AV) → List (Nat × Value) → Prop
  | [], qs => qs = []
  | p :: ps, qs => ∃ q qs', qs = q :: qs' ∧ p.1 = q.1 ∧ Rv w I β p.2 q.2 ∧ RvParts w I β ps qs'
theorem fill_sound {place place' : Nat → Option (Nat × Nat)} (hp : ∀ i x, place i = some x → place' i = some x) : ∀ (ps : List (Nat × AV)) (qs : List (Nat × Value)) (cs cs' : List AV) (A : Array Value),
    fillA place cs ps = some cs' → RvParts w I β ps qs → Rv1s w I β cs A.toList → ∃ A', Instr.fill place' A qs = some A' ∧ Rv1s w I β cs' A'.toList
  | [], _, cs, cs', A, h, hq, hr => by
    cases h; cases hq
    exact ⟨A, rfl, hr⟩
  | (i, v) :: ps, qs, cs, cs', A, h, hq, hr => by
    obtain ⟨⟨i', x⟩, qs', rfl, rfl, hv, hq⟩ := hq
    unfold fillA at h
    split at h
    · rename_i off size new hpl hnew
      split at h
      · rename_i hc
        obtain ⟨h1, h2, h3⟩ := hc
        obtain ⟨hv1, hv2⟩ := valCells_spec hnew hv h3
        obtain ⟨hl, hg⟩ := Rv1s_get _ _ hv1
        obtain ⟨hl', hg'⟩ := Rv1s_get _ _ hr
        unfold Instr.fill
        rw [hp _ _ hpl]
        simp only []
        rw [if_neg (by simp at hl hl' ⊢; omega)]
        refine fill_sound hp ps qs' _ cs' _ h hq ?_
        have hsz : (x.cells.zipIdx.foldl (fun cs (p : Value × Nat) => cs.setIfInBounds (off + p.2) p.1) A).size = A.size := by
          rw [← Array.foldl_toList]; exact fold_size off _ _
        refine Rv1s_mk _ _ (by simp only [Array.length_toList] at hl hl' ⊢; rw [show (Array.foldl (fun cs (x : Value × Nat) => cs.setIfInBounds (off + x.2) x.1) A x.cells.zipIdx).size = A.size from hsz]; simp; omega) ?_
        intro j c y hc hy
        have hy' : ((x.cells.toList.zipIdx 0).foldl (fun cs (p : Value × Nat) => cs.setIfInBounds (off + p.2) p.1) A)[j]? = some y := by
          rw [Array.getElem?_toList, ← Array.foldl_toList, Array.toList_zipIdx] at hy
          exact hy
        rw [fold_splice] at hy'
        have hgen := setCells_get cs off new (by omega) j
        have hsc : (cs.take off ++ new ++ cs.drop (off + new.length))[j]? = if off ≤ j ∧ j < off + new.length then new[j - off]? else cs[j]? := by
          by_cases h1 : j < off
          · rw [List.append_assoc, List.getElem?_append_left (by simp; omega), List.getElem?_take, if_pos h1, if_neg (by omega)]
          · by_cases h2 : j < off + new.length
            · rw [List.append_assoc, List.getElem?_append_right (by simp; omega), List.getElem?_append_left (by simp; omega), if_pos (by omega)]
              congr 1; simp; omega
            · rw [List.getElem?_append_right (by simp; omega), if_neg (by omega), List.getElem?_drop]
              congr 1; simp; omega
        rw [hsc] at hc
        split at hc
        · rename_i hj
          rw [if_pos (by simp at hl hl' ⊢; omega)] at hy'
          obtain ⟨v', hv', hrv⟩ := hg _ _ hc
          simp only [Nat.add_zero] at hy'
          rw [hv'] at hy'; cases hy'
          exact hrv
        · rename_i hj
          rw [if_neg (by simp at hl hl' ⊢; omega)] at hy'
          obtain ⟨v', hv', hrv⟩ := hg' _ _ hc
          rw [Array.getElem?_toList] at hv'
          rw [hv'] at hy'; cases hy'
          exact hrv
      · cases h
    · cases h
theorem placesOf_spec : ∀ (fs : List Field) (pl : List (Nat × Nat)), placesOf P (fs.map fun f => (f.offset, f.type)) = some pl → fs.mapM (fun f => (P.info? f.type).map fun i => (f.offset, i.size)) = some pl
  | [], pl, h => by cases h; rfl
  | f :: fs, pl, h => by
    simp only [List.map_cons] at h
    unfold placesOf at h
    split at h
    · rename_i T l hT hl
      cases h
      obtain ⟨d, i, z, hd, hi, hz, rfl⟩ := ti_spec hT
      simp [List.mapM_cons, hi, placesOf_spec fs l hl]
    · cases h
end
section
variable {C : Cx} {st : St} {a : Act} {w : World} {I : Nat → Prop} {β : Beta} {φ : Nat → List Nat}
theorem parts_rel (hE : ∀ x, Rv w I β (ev st x) (a.eval x)) : ∀ (l : List (Nat × Operand)), RvParts w I β (parts st l) (l.map fun p => (p.1, a.eval p.2))
  | [] => rfl
  | p :: l => ⟨_, _, rfl, rfl, hE p.2, parts_rel hE l⟩
theorem build_sound (hC : Conc C st a w I β φ) {t : TypeId} {ps : List (Nat × AV)} {qs : Array (Nat × Value)} {v : AV} {c : Prop} {u : Ups} (hq : RvParts w I β ps qs.toList) (h : aBuild P t ps = some (c, v, u)) :
    Good P C st a w (Instr.build t qs) v u := by
  unfold aBuild at h
  split at h
  · rename_i T hT
    obtain ⟨d, i, z, hd, hi, hz, rfl⟩ := ti_spec hT
    simp only at h
    split at h
    · rename_i fs hk
      split at h
      · rename_i pl hpl
        split at h
        · rename_i cs hcs
          cases h
          cases d <;> simp only [tkOf, TK.struct.injEq, reduceCtorEq] at hk
          rename_i fields
          subst hk
          have hmm := placesOf_spec _ _ hpl
          obtain ⟨A', hA, hr⟩ := fill_sound (w := w) (I := I) (β := β) (place' := (pl.toArray[·]?)) (fun i x hx => by simpa using hx) _ _ _ _ z.cells hcs hq (Rv1s_cv _)
          refine good_pure hC (run_build w t qs A' ?_) ⟨A'.toList, by simp, hr⟩
          simp only [Program.built, hi, hd, hz, hmm]
          exact hA
        · cases h
      · cases h
    · rename_i n e hk
      split at h
      · rename_i E hE
        obtain ⟨d', i', z', hd', hi', hz', rfl⟩ := ti_spec hE
        split at h
        · rename_i cs hcs
          cases h
          cases d <;> simp only [tkOf, TK.array.injEq, reduceCtorEq] at hk
          obtain ⟨rfl, rfl⟩ := hk
          obtain ⟨A', hA, hr⟩ := fill_sound (w := w) (I := I) (β := β) (fun i x hx => hx) _ _ _ _ z.cells hcs hq (Rv1s_cv _)
          refine good_pure hC (run_build w t qs A' ?_) ⟨A'.toList, by simp, hr⟩
          simp only [Program.built, hi, hd, hz, hi']
          exact hA
        · cases h
      · cases h
    · cases h
  · cases h
end
end Go.Proofs.Ytpaccfeiaekacaa.Vs

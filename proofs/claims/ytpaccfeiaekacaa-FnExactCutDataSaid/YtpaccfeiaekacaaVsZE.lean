import Derived.Test.YtpaccfeiaekacaaVsZD
import Derived.ChangeSame
import Derived.Carry
import Derived.ChangeShapes
import Derived.DataReads
namespace Go.Proofs.Ytpaccfeiaekacaa.Vs
set_option linter.unusedVariables false
set_option linter.unusedSimpArgs false
set_option linter.unusedSectionVars false
set_option linter.unnecessarySimpa false
set_option linter.all false
open Go.RowKit
variable {P : Program}
/-! ### What a given statement's arguments read as -/
/-- The type's values: integers, truth values, strings, slices and structs of such. -/
def tileOk (P : Program) : List Field → Nat → Nat → Bool
  | [], o, s => o == s
  | f :: fs, o, s => f.offset == o && tileOk P fs (o + P.cellsOf f.type) s
def okT (P : Program) : Nat → TypeId → Bool
  | 0, _ => false
  | n + 1, t => match P.underlying t with
    | some .bool => true
    | some (.int _) => true
    | some .string => true
    | some (.slice e) => decide (0 < P.cellsOf e) && okT P n e
    | some (.struct fs) => tileOk P fs.toList 0 (P.cellsOf t) && fs.toList.all (fun f => okT P n f.type)
    | _ => false
def shpF (S : TypeId → List AV → Prop) (P : Program) : List Field → List AV → Prop
  | [], cs => cs = []
  | f :: fs, cs => ∃ a b, cs = a ++ b ∧ a.length = P.cellsOf f.type ∧ S f.type a ∧ shpF S P fs b
/-- Cells of a type. -/
def shp (P : Program) : Nat → TypeId → List AV → Prop
  | 0, _, _ => False
  | n + 1, t, cs => match P.underlying t with
    | some .bool => ∃ b, cs = [.g (.bool b)]
    | some (.int k) => ∃ m, cs = [.g (.int k m)] ∧ (Lit.int k m).wf = true
    | some .string => ∃ l, cs = [.s l] ∧ l.length ≤ maxLen
    | some (.slice e) => ∃ xs, cs = [.sl (P.cellsOf e) xs] ∧ xs.length ≤ maxLen ∧ ∀ x ∈ xs, shp P n e x
    | some (.struct fs) => shpF (shp P n) P fs.toList cs
    | _ => False
/-- Cells that read as values. -/
def RIl (w : World) (I : Nat → Prop) : List AV → List Value → Prop
  | [], vs => vs = []
  | c :: cs, vs => ∃ v vs', vs = v :: vs' ∧ RI w I c v ∧ RIl w I cs vs'
section
variable {w : World} {I : Nat → Prop}
theorem RIl_length : ∀ (cs : List AV) (vs : List Value), RIl w I cs vs → cs.length = vs.length
  | [], _, h => by cases h; rfl
  | c :: cs, _, ⟨v, vs', rfl, _, h⟩ => by simp [RIl_length cs vs' h]
theorem RIl_append : ∀ (cs ds : List AV) (vs us : List Value), RIl w I cs vs → RIl w I ds us → RIl w I (cs ++ ds) (vs ++ us)
  | [], _, _, _, h, k => by cases h; exact k
  | c :: cs, ds, _, us, ⟨v, vs', rfl, h1, h2⟩, k => ⟨v, vs' ++ us, rfl, h1, RIl_append cs ds vs' us h2 k⟩
theorem RIl_get : ∀ (cs : List AV) (vs : List Value), RIl w I cs vs → ∀ (i : Nat) c, cs[i]? = some c → ∃ v, vs[i]? = some v ∧ RI w I c v
  | [], _, _, i, c, h => by simp at h
  | c :: cs, _, ⟨v, vs', rfl, h1, h2⟩, i, c', h => by
    cases i with
    | zero => simp at h; subst h; exact ⟨v, rfl, h1⟩
    | succ i => simpa using RIl_get cs vs' h2 i c' (by simpa using h)
theorem list_of {α : Type} {Q : Nat → α → Prop} : ∀ (n : Nat), (∀ i, i < n → ∃ x, Q i x) → ∃ xs : List α, xs.length = n ∧ ∀ (i : Nat) x, xs[i]? = some x → Q i x
  | 0, _ => ⟨[], rfl, by simp⟩
  | n + 1, h => by
    obtain ⟨xs, hl, hx⟩ := list_of n fun i hi => h i (by omega)
    obtain ⟨x, hq⟩ := h n (by omega)
    refine ⟨xs ++ [x], by simp [hl], fun i y hy => ?_⟩
    by_cases hi : i < n
    · rw [List.getElem?_append_left (by omega)] at hy; exact hx i y hy
    · rw [List.getElem?_append_right (by omega)] at hy
      have : i = n := by
        have := (List.getElem?_eq_some_iff.1 hy).1
        simp at this; omega
      subst this
      simp [hl] at hy
      subst hy; exact hq
theorem cells?_cell {base : Nat} {a : Addr} {n : Nat} {cs : List Value} (h : w.cells? base a n = some cs) : cs.length = n ∧ ∀ j, j < n → w.cell? (a.add j) = cs[j]? := by
  unfold World.cells? at h
  split at h
  · have hl := mapM_some_length h
    refine ⟨by simpa using hl, fun j hj => mapM_some_get h j j (by simp [hj])⟩
  · cases h
theorem cell?_spot {a : Addr} {v : Value} (h : w.cell? a = some v) : a.spot = none ∧ a.block < w.heap.size := by
  unfold World.cell? at h
  split at h
  · rename_i c x y hc
    split at h
    · cases h
    · rename_i hs
      refine ⟨by simpa using hs, ?_⟩
      exact (Array.getElem?_eq_some_iff.1 hc).1
  · cases h
variable {H : Type} {enc : TypeId × Value → H} {spare : Nat → Bool} {held : Bool}
theorem trod_open : ∀ (n fuel : Nat) (t : TypeId) (vs : List Value) (x : DataW H × List MemPlace), okT P n t = true → DataW.trod enc P w 0 spare held fuel t vs = some x →
    ∃ cs, shp P n t cs ∧ RIl w (fun b => b < w.heap.size) cs vs
  | 0, _, _, _, _, h, _ => by simp [okT] at h
  | n + 1, fuel, t, vs, x, hok, h => by
    unfold okT at hok
    unfold shp
    cases hu : P.underlying t with
    | none => rw [hu] at hok; simp at hok
    | some d =>
      rw [hu] at hok
      cases d with
      | slice e =>
        simp only [Bool.and_eq_true, decide_eq_true_eq] at hok
        simp only
        rcases DataW.trod_slice hu h with ⟨rfl, -⟩ | ⟨a, len, cap, elems, rest, m, -, rfl, -, -, hlc, hcm, hel, hget, -, -⟩
        · refine ⟨[.sl (P.cellsOf e) []], ⟨[], rfl, by simp, by simp⟩, .slice none 0 0, [], rfl, ?_, rfl⟩
          rw [RI]; exact ⟨none, 0, rfl, by simp, .inl rfl⟩
        · have hsp : 0 < len → a.spot = none ∧ a.block < w.heap.size := by
            intro hlen
            have h1 := hget 0 hlen
            rw [List.getElem?_eq_getElem (by omega)] at h1
            obtain ⟨vs', h2, h3⟩ := Option.bind_eq_some_iff.1 h1
            obtain ⟨h6, h7⟩ := cells?_cell h2
            have h8 := h7 0 hok.1
            rw [List.getElem?_eq_getElem (by omega)] at h8
            simp only [Nat.zero_mul, Addr.add, if_true] at h8
            exact cell?_spot h8
          have hadd : a.spot = none → ∀ k, a.add k = ⟨a.block, a.off + k, none⟩ := by
            intro hs k
            unfold Addr.add
            split
            · rename_i hk; subst hk; rw [← hs]; rfl
            · rfl
          obtain ⟨xs, hxl, hxs⟩ := list_of (Q := fun i y => shp P n e y ∧ y.length = P.cellsOf e ∧ RIc w (fun b => b < w.heap.size) a.block (a.off + i * P.cellsOf e) y) len (by
            intro i hi
            obtain ⟨hs, hb⟩ := hsp (by omega)
            have h1 := hget i hi
            rw [List.getElem?_eq_getElem (by omega)] at h1
            obtain ⟨vs', h2, h3⟩ := Option.bind_eq_some_iff.1 h1
            obtain ⟨y, h4, h5⟩ := trod_open n m e vs' _ hok.2 h3
            obtain ⟨h6, h7⟩ := cells?_cell h2
            have hylen : y.length = P.cellsOf e := by rw [RIl_length _ _ h5, h6]
            refine ⟨y, h4, hylen, (RIc_iff _ _).2 fun j c hc => ?_⟩
            obtain ⟨v, hv, hr⟩ := RIl_get _ _ h5 j c hc
            refine ⟨v, ?_, hr⟩
            have h8 := h7 j (by have := (List.getElem?_eq_some_iff.1 hc).1; omega)
            rw [hadd hs, hv] at h8
            have : ({ block := a.block, off := a.off + i * P.cellsOf e, spot := none } : Addr).add j = ⟨a.block, a.off + i * P.cellsOf e + j, none⟩ := by
              unfold Addr.add
              split
              · rename_i hk; subst hk; rfl
              · rfl
            rw [this] at h8
            exact h8)
          refine ⟨[.sl (P.cellsOf e) xs], ⟨xs, rfl, by omega, fun y hy => ?_⟩, .slice (some a) len cap, [], rfl, ?_, rfl⟩
          · obtain ⟨i, hi⟩ := List.getElem?_of_mem hy
            exact (hxs i y hi).1
          · rw [RI]
            refine ⟨some a, cap, by rw [hxl], by omega, ?_⟩
            by_cases h0 : len = 0
            · left; exact List.length_eq_zero_iff.1 (by omega)
            · obtain ⟨hs, hb⟩ := hsp (by omega)
              refine .inr ⟨a.block, a.off, ?_, hb, (RIe_iff _ _).2 fun i y hy => ⟨(hxs i y hy).2.1, (hxs i y hy).2.2⟩⟩
              rw [← hs]
      | struct fs =>
        simp only [Bool.and_eq_true] at hok
        simp only
        obtain ⟨ys, m, -, rfl, hl, hlen, hf⟩ := DataW.trod_struct hu h
        have key : ∀ (l : List Field) (o : Nat) (us : List Value), tileOk P l o (P.cellsOf t) = true → l.all (fun f => okT P n f.type) = true → us = vs.drop o → o ≤ vs.length →
            (∀ f ∈ l, ∃ y, DataW.trod enc P w 0 spare held m f.type ((vs.drop f.offset).take (P.cellsOf f.type)) = some y) → ∃ cs, shpF (shp P n) P l cs ∧ RIl w (fun b => b < w.heap.size) cs us := by
          intro l
          induction l with
          | nil =>
            intro o us ht _ hus _ _
            have : o = P.cellsOf t := by simpa [tileOk] using ht
            refine ⟨[], rfl, ?_⟩
            show us = []
            rw [hus]
            exact List.drop_eq_nil_of_le (by omega)
          | cons f l ih =>
            intro o us ht hall hus hol hr
            unfold tileOk at ht
            simp only [Bool.and_eq_true, beq_iff_eq] at ht
            simp only [List.all_cons, Bool.and_eq_true] at hall
            obtain ⟨rfl, ht⟩ := ht
            obtain ⟨y, hy⟩ := hr f (by simp)
            obtain ⟨a, h1, h2⟩ := trod_open n m f.type _ y hall.1 hy
            have hle : ∀ (l : List Field) (o s : Nat), tileOk P l o s = true → o ≤ s := by
              intro l
              induction l with
              | nil => intro o s h; have : o = s := by simpa [tileOk] using h
                       omega
              | cons f l ih =>
                intro o s h
                unfold tileOk at h
                simp only [Bool.and_eq_true, beq_iff_eq] at h
                have := ih _ _ h.2
                omega
            have hb := hle _ _ _ ht
            obtain ⟨b, h3, h4⟩ := ih (f.offset + P.cellsOf f.type) (vs.drop (f.offset + P.cellsOf f.type)) ht hall.2 rfl (by omega) fun g hg => hr g (by simp [hg])
            have hal : a.length = P.cellsOf f.type := by
              rw [RIl_length _ _ h2]
              simp
              omega
            refine ⟨a ++ b, ⟨a, b, rfl, hal, h1, h3⟩, ?_⟩
            have : us = (vs.drop f.offset).take (P.cellsOf f.type) ++ vs.drop (f.offset + P.cellsOf f.type) := by
              rw [hus, ← List.drop_drop, List.take_append_drop]
            rw [this]
            exact RIl_append _ _ _ _ h2 h4
        exact key fs.toList 0 vs hok.1 hok.2 rfl (Nat.zero_le _) fun f hf' => by
          obtain ⟨i, hi⟩ := List.getElem?_of_mem hf'
          have h1 := hf i f (by simpa using hi)
          have hlt : i < ys.length := by rw [hlen]; simpa using (List.getElem?_eq_some_iff.1 hi).1
          exact ⟨ys[i], by rw [h1]; simp [hlt]⟩
      | bool =>
        obtain ⟨b, rfl, -⟩ := DataW.trod_bool hu h
        refine ⟨[.g (.bool b)], ⟨b, rfl⟩, _, [], rfl, ?_, rfl⟩
        rw [RI]; exact ⟨rfl, rfl⟩
      | int k =>
        obtain ⟨m, rfl, -, hw⟩ := DataW.trod_int hu h
        refine ⟨[.g (.int k m)], ⟨m, rfl, hw⟩, _, [], rfl, ?_, rfl⟩
        rw [RI]; exact ⟨rfl, rfl⟩
      | string =>
        obtain ⟨s, rfl, -, hs⟩ := DataW.trod_string hu h
        refine ⟨[.s s.data.toList], ⟨_, rfl, by simpa using hs⟩, _, [], rfl, ?_, rfl⟩
        rw [RI]
      | _ => simp at hok
end
end Go.Proofs.Ytpaccfeiaekacaa.Vs

import Derived.Test.YtmheohnbkaoipaaSStT
open Go Go.Proofs Go.Proofs.Ytmheohnbkaoipaa.Vs
namespace Go.Proofs.Ytmheohnbkaoipaa.Vs
set_option linter.all false
set_option linter.unusedSimpArgs false
set_option linter.unusedVariables false
/-! what an order of calls is -/
def lateB (l : List DtCall) (k j : Int) : Bool := match l[k.toNat]?, l[j.toNat]? with
 | some a, some b => decide (a.fEnd < b.fStart)
 | _, _ => false
theorem ztu {l : List DtCall} {k j : Int} (hk : k.toNat < l.length) (hj : j.toNat < l.length) : lateB l k j = decide (l[k.toNat].fEnd < l[j.toNat].fStart) := by unfold lateB; rw [List.getElem?_eq_getElem hk, List.getElem?_eq_getElem hj]
def cmdA (l : List DtCall) (k : Int) : DtCmd := match l[k.toNat]? with
 | some c => c.fCmd
 | none => zeroCmd
def txtA (l : List DtCall) (k : Int) : List UInt8 := match l[k.toNat]? with
 | some c => c.fText
 | none => []
theorem zzx {l : List DtCall} {k : Int} (hk : k.toNat < l.length) : cmdA l k = l[k.toNat].fCmd := by unfold cmdA; rw [List.getElem?_eq_getElem hk]
theorem zzy {l : List DtCall} {k : Int} (hk : k.toNat < l.length) : txtA l k = l[k.toNat].fText := by unfold txtA; rw [List.getElem?_eq_getElem hk]
noncomputable def stP (l : List DtCall) (p : List Int) : DtState := p.foldl (fun s k => stC s (cmdA l k)) st0S
theorem stP_snoc (l : List DtCall) (p : List Int) (k : Int) : stP l (p ++ [k]) = stC (stP l p) (cmdA l k) := by unfold stP; rw [List.foldl_append]; rfl
theorem ztv (l : List DtCall) (o : List Int) (i : Nat) (h : i < o.length) : stP l (o.take (i + 1)) = stC (stP l (o.take i)) (cmdA l o[i]) := by rw [List.take_succ_eq_append_getElem h, stP_snoc]
theorem stP_I (l : List DtCall) (p : List Int) : StI (stP l p) := by
 have key : ∀ (p : List Int) (s : DtState), StI s → StI (p.foldl (fun s k => stC s (cmdA l k)) s) := by
  intro p
  induction p with
  | nil => intro s hs; exact hs
  | cons k p ih => intro s hs; exact ih _ (stC_I hs _)
 exact key p _ stI_nil
theorem stP_sz (l : List DtCall) (p : List Int) : DtState.sz (stP l p) ≤ 1048576 := stI_sz' (stP_I l p)
/-- What the program asks of the place i. -/
def FitP (l : List DtCall) (o : List Int) (i : Nat) : Prop := ∀ h : i < o.length, 0 ≤ o[i] ∧ o[i] < (l.length : Int) ∧ o[i] ∉ o.take i ∧ (o.take i).any (lateB l o[i]) = false ∧ stR (stP l (o.take i)) (cmdA l o[i]) = txtA l o[i]
/-- What the reference asks of it. -/
def FitQ (l : List DtCall) (o : List Int) (i : Nat) : Prop := ∀ h : i < o.length, 0 ≤ o[i] ∧ o[i] < (l.length : Int) ∧ o[i] ∉ o.take i ∧ (∀ j : Nat, j < l.length → (j : Int) ∉ o.take (i + 1) → lateB l j o[i] = false) ∧ stR (stP l (o.take i)) (cmdA l o[i]) = txtA l o[i]
def FitsP (l : List DtCall) (o : List Int) : Prop := ∀ i, FitP l o i
def FitsQ (l : List DtCall) (o : List Int) : Prop := ∀ i, FitQ l o i
theorem zv0 {o : List Int} (h : ∀ (i : Nat) (hi : i < o.length), o[i] ∉ o.take i) : o.Nodup := by
 refine List.pairwise_iff_getElem.2 fun i j hi hj hij e => h j hj ?_
 rw [← e]
 exact List.mem_iff_getElem.2 ⟨i, by simp; omega, by simp⟩
theorem nd_len : ∀ (l m : List Nat), l.Nodup → (∀ x ∈ l, x ∈ m) → l.length ≤ m.length
 | [], m, _, _ => by simp
 | a :: l, m, h, hs => by
  obtain ⟨h1, h2⟩ := List.nodup_cons.1 h
  have ha := hs a List.mem_cons_self
  have := nd_len l (m.erase a) h2 fun x hx => (List.mem_erase_of_ne (fun e => h1 (by rw [← e]; exact hx))).2 (hs x (List.mem_cons_of_mem _ hx))
  rw [List.length_erase_of_mem ha] at this
  have hm : 0 < m.length := List.length_pos_of_mem ha
  simp only [List.length_cons]
  omega
theorem all_in {o : List Int} {n : Nat} (hn : o.Nodup) (hr : ∀ x ∈ o, 0 ≤ x ∧ x < (n : Int)) (hl : o.length = n) (j : Nat) (hj : j < n) : (j : Int) ∈ o := by
 have h1 : (o.map Int.toNat).Nodup := by
  refine List.pairwise_iff_getElem.2 fun a b ha hb hab e => ?_
  simp only [List.length_map] at ha hb
  simp only [List.getElem_map] at e
  have x1 := hr _ (List.getElem_mem ha)
  have x2 := hr _ (List.getElem_mem hb)
  exact List.pairwise_iff_getElem.1 hn a b ha hb hab (by omega)
 refine Classical.byContradiction fun hj2 => ?_
 have := nd_len (o.map Int.toNat) ((List.range n).erase j) h1 fun x hx => by
  obtain ⟨y, hy, rfl⟩ := List.mem_map.1 hx
  have hy2 := hr y hy
  refine (List.mem_erase_of_ne fun e => hj2 ?_).2 (List.mem_range.2 (by omega))
  have : y = (j : Int) := by omega
  rw [← this]; exact hy
 rw [List.length_erase_of_mem (List.mem_range.2 hj), List.length_map, List.length_range] at this
 omega
theorem ztw {l : List DtCall} {o : List Int} (hl : o.length = l.length) : FitsP l o ↔ FitsQ l o := by
 constructor
 ·intro h i hi
  obtain ⟨h1, h2, h3, h4, h5⟩ := h i hi
  refine ⟨h1, h2, h3, fun j hj hjn => ?_, h5⟩
  have hnd := zv0 fun i hi => (h i hi).2.2.1
  have hm := all_in (n := l.length) hnd (fun x hx => by
   obtain ⟨a, ha, rfl⟩ := List.getElem_of_mem hx
   exact ⟨(h a ha).1, (h a ha).2.1⟩) hl j hj
  obtain ⟨p, hp, e⟩ := List.getElem_of_mem hm
  have hpi : i < p := by
   refine Nat.lt_of_not_le fun hpi => hjn ?_
   exact List.mem_iff_getElem.2 ⟨p, by simp; omega, by simp [e]⟩
  have h6 := (h p hp).2.2.2.1
  rw [List.any_eq_false] at h6
  have := h6 o[i] (List.mem_iff_getElem.2 ⟨i, by simp; omega, by simp⟩)
  rw [e] at this
  simpa using this
 ·intro h i hi
  obtain ⟨h1, h2, h3, h4, h5⟩ := h i hi
  refine ⟨h1, h2, h3, ?_, h5⟩
  rw [List.any_eq_false]
  intro x hx
  obtain ⟨j, hj, rfl⟩ := List.getElem_of_mem hx
  simp only [List.length_take] at hj
  simp only [List.getElem_take]
  have hj2 : j < o.length := by omega
  obtain ⟨-, -, -, g4, -⟩ := h j hj2
  have := g4 o[i].toNat (by omega) (fun hm => h3 (by
   rw [show ((o[i].toNat : Nat) : Int) = o[i] by omega] at hm
   exact List.take_subset_take_left _ (by omega) hm))
  rw [show ((o[i].toNat : Nat) : Int) = o[i] by omega] at this
  simp [this]
end Go.Proofs.Ytmheohnbkaoipaa.Vs

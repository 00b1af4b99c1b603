import Derived.Test.YtmheohnbkaoipaaSStT
open Go Go.Proofs Go.Proofs.Ytmheohnbkaoipaa.Vs
namespace Go.Proofs.Ytmheohnbkaoipaa.Vs
set_option linter.all false
set_option linter.unusedSimpArgs false
set_option linter.unusedVariables false
/-! what an order of calls is -/
def lateB (l : List DtCall) (k j : Int) : Bool := match l[k.toNat]?, l[j.toNat]? with
 | some a, some b => decide (a.fEnd < b.fStart)
 | _, _ => false
theorem zv1 {l : List DtCall} {k j : Int} (hk : k.toNat < l.length) (hj : j.toNat < l.length) : lateB l k j = decide (l[k.toNat].fEnd < l[j.toNat].fStart) := by unfold lateB; rw [List.getElem?_eq_getElem hk, List.getElem?_eq_getElem hj]
def cmdA (l : List DtCall) (k : Int) : DtCmd := match l[k.toNat]? with
 | some c => c.fCmd
 | none => zeroCmd
def txtA (l : List DtCall) (k : Int) : List UInt8 := match l[k.toNat]? with
 | some c => c.fText
 | none => []
theorem cmdA_at {l : List DtCall} {k : Int} (hk : k.toNat < l.length) : cmdA l k = l[k.toNat].fCmd := by unfold cmdA; rw [List.getElem?_eq_getElem hk]
theorem txtA_at {l : List DtCall} {k : Int} (hk : k.toNat < l.length) : txtA l k = l[k.toNat].fText := by unfold txtA; rw [List.getElem?_eq_getElem hk]
noncomputable def stP (l : List DtCall) (p : List Int) : DtState := p.foldl (fun s k => stC s (cmdA l k)) st0S
theorem stP_nil (l : List DtCall) : stP l [] = st0S := rfl
theorem zv2 (l : List DtCall) (p : List Int) (k : Int) : stP l (p ++ [k]) = stC (stP l p) (cmdA l k) := by unfold stP; rw [List.foldl_append]; rfl
theorem stP_I (l : List DtCall) (p : List Int) : StI (stP l p) := by
 have key : ∀ (p : List Int) (s : DtState), StI s → StI (p.foldl (fun s k => stC s (cmdA l k)) s) := by
  intro p
  induction p with
  | nil => intro s hs; exact hs
  | cons k p ih => intro s hs; exact ih _ (stC_I hs _)
 exact key p _ stI_nil
theorem stP_sz (l : List DtCall) (p : List Int) : DtState.sz (stP l p) ≤ 1048576 := stI_sz' (stP_I l p)
/-- What the program asks of the place i. -/
def FitP (l : List DtCall) (o : List Int) (i : Nat) : Prop := ∀ h : i < o.length, 0 ≤ o[i] ∧ o[i] < (l.length : Int) ∧ o[i] ∉ o.take i ∧ (o.take i).any (lateB l o[i]) = false ∧ stR (stP l (o.take i)) (cmdA l o[i]) = txtA l o[i]
/-- What the reference asks of it. -/
def FitQ (l : List DtCall) (o : List Int) (i : Nat) : Prop := ∀ h : i < o.length, 0 ≤ o[i] ∧ o[i] < (l.length : Int) ∧ o[i] ∉ o.take i ∧ (∀ j : Nat, j < l.length → (j : Int) ∉ o.take (i + 1) → lateB l j o[i] = false) ∧ stR (stP l (o.take i)) (cmdA l o[i]) = txtA l o[i]
def FitsP (l : List DtCall) (o : List Int) : Prop := ∀ i, FitP l o i
def FitsQ (l : List DtCall) (o : List Int) : Prop := ∀ i, FitQ l o i
theorem znf {o : List Int} (h : ∀ (i : Nat) (hi : i < o.length), o[i] ∉ o.take i) : o.Nodup := by
 refine List.pairwise_iff_getElem.2 fun i j hi hj hij e => h j hj ?_
 rw [← e]
 exact List.mem_iff_getElem.2 ⟨i, by simp; omega, by simp⟩
theorem nd_len : ∀ (l m : List Nat), l.Nodup → (∀ x ∈ l, x ∈ m) → l.length ≤ m.length
 | [], m, _, _ => by simp
 | a :: l, m, h, hs => by
  obtain ⟨h1, h2⟩ := List.nodup_cons.1 h
  have ha := hs a List.mem_cons_self
  have := nd_len l (m.erase a) h2 fun x hx => (List.mem_erase_of_ne (fun e => h1 (by rw [← e]; exact hx))).2 (hs x (List.mem_cons_of_mem _ hx))
  rw [List.length_erase_of_mem ha] at this
  have hm : 0 < m.length := List.length_pos_of_mem ha
  simp only [List.length_cons]
  omega
theorem all_in {o : List Int} {n : Nat} (hn : o.Nodup) (hr : ∀ x ∈ o, 0 ≤ x ∧ x < (n : Int)) (hl : o.length = n) (j : Nat) (hj : j < n) : (j : Int) ∈ o := by
 have h1 : (o.map Int.toNat).Nodup := by
  refine List.pairwise_iff_getElem.2 fun a b ha hb hab e => ?_
  simp only [List.length_map] at ha hb
  simp only [List.getElem_map] at e
  have x1 := hr _ (List.getElem_mem ha)
  have x2 := hr _ (List.getElem_mem hb)
  exact List.pairwise_iff_getElem.1 hn a b ha hb hab (by omega)
 refine Classical.byContradiction fun hj2 => ?_
 have := nd_len (o.map Int.toNat) ((List.range n).erase j) h1 fun x hx => by
  obtain ⟨y, hy, rfl⟩ := List.mem_map.1 hx
  have hy2 := hr y hy
  refine (List.mem_erase_of_ne fun e => hj2 ?_).2 (List.mem_range.2 (by omega))
  have : y = (j : Int) := by omega
  rw [← this]; exact hy
 rw [List.length_erase_of_mem (List.mem_range.2 hj), List.length_map, List.length_range] at this
 omega
def seenL (n : Nat) (p : List Int) : List (List AV) := (List.range n).map fun j : Nat => cB (decide ((j : Int) ∈ p))
theorem zl4 (n : Nat) (p : List Int) : (seenL n p).length = n := by simp [seenL]
theorem seenL_nil (n : Nat) : seenL n [] = List.replicate n [.g (.bool false)] := by
 refine List.ext_getElem (by simp [seenL]) fun i h1 h2 => ?_
 simp [seenL, cB]
theorem zv3 (n : Nat) (p : List Int) (j : Nat) (h : j < n) : (seenL n p)[j]? = some (cB (decide ((j : Int) ∈ p))) := by simp [seenL, h]
theorem seenL_set (n : Nat) (p : List Int) (k : Int) (h0 : 0 ≤ k) : (seenL n p).set k.toNat (cB true) = seenL n (p ++ [k]) := by
 refine List.ext_getElem (by simp [seenL]) fun i h1 h2 => ?_
 rw [List.getElem_set]
 simp only [seenL, List.getElem_map, List.getElem_range]
 by_cases e : k.toNat = i
 ·rw [if_pos e]
  have : (i : Int) = k := by omega
  simp [this]
 ·rw [if_neg e]
  have : ¬ (i : Int) = k := by omega
  simp [this]
theorem zd5 (n : Nat) (p : List Int) : scR (seenL n p) = true := zdv (fun j : Nat => cB (decide ((j : Int) ∈ p))) (fun _ => rfl) _
theorem zxd (n : Nat) (p : List Int) (i : Nat) : (seenL n p).set i [.g (.bool true)] = seenL n (p ++ [(i : Int)]) := by
 have := seenL_set n p (i : Int) (by omega)
 simpa [cB] using this
theorem zng (n : Nat) (p : List Int) : List.flatMap (fun y => List.flatMap names1 y) (seenL n p) = [] := by
 unfold seenL
 induction List.range n with
 | nil => rfl
 | cons x p ih => rw [List.map_cons, List.flatMap_cons, ih]; rfl
end Go.Proofs.Ytmheohnbkaoipaa.Vs

import Derived.Test.YtmheohnbkaoipaaGreatSHQ
open Go Go.Proofs Go.Proofs.YtmheohnbkaoipaaGreat.Vs
namespace Go.Proofs.YtmheohnbkaoipaaGreat.Vs
set_option linter.all false
set_option linter.unusedSimpArgs false
set_option linter.unusedVariables false
set_option maxRecDepth 100000
/-! pruning -/
def bareN : List DtCSnap → Nat
 | [] => 0
 | p :: l => (if p.fTag = [] then 1 else 0) + bareN l
def prn (g : Int) : Int → List DtCSnap → List DtCSnap
 | _, [] => []
 | s, p :: l => if p.fTag = [] then (if s < g then prn g (s + 1) l else p :: prn g (s + 1) l) else p :: prn g s l
theorem zwy (l : List DtCSnap) (p : DtCSnap) : bareN (l ++ [p]) = bareN l + (if p.fTag = [] then 1 else 0) := by
 induction l with
 | nil => simp [bareN]
 | cons q l ih => simp only [List.cons_append, bareN, ih]; omega
theorem zkr (l : List DtCSnap) : bareN l ≤ l.length := by
 induction l with
 | nil => simp [bareN]
 | cons q l ih => simp only [bareN, List.length_cons]; split <;> omega
theorem zh9 (l : List DtCSnap) (i : Nat) (h : i < l.length) : bareN (l.take (i + 1)) = bareN (l.take i) + (if l[i].fTag = [] then 1 else 0) := by
 rw [List.take_succ_eq_append_getElem h, zwy]
theorem zrf (l : List DtCSnap) (i : Nat) : bareN (l.take i) ≤ bareN l := by
 have : l = l.take i ++ l.drop i := (List.take_append_drop i l).symm
 have key : ∀ a b : List DtCSnap, bareN a ≤ bareN (a ++ b) := by
  intro a b
  induction a with
  | nil => simp [bareN]
  | cons q a ih => simp only [List.cons_append, bareN]; omega
 have h := key (l.take i) (l.drop i)
 rwa [← this] at h
theorem prn_len (g : Int) (l : List DtCSnap) : ∀ s : Int, (prn g s l).length + (min (bareN l : Int) (max 0 (g - s))).toNat = l.length := by
 induction l with
 | nil => intro s; simp [prn, bareN]; omega
 | cons q l ih =>
  intro s
  have h1 := ih (s + 1)
  have h2 := ih s
  simp only [prn, bareN, List.length_cons]
  by_cases h : q.fTag = []
  ·simp only [h, if_true]
   by_cases h3 : s < g
   ·simp only [h3, if_true]; omega
   ·simp only [h3, if_false, List.length_cons]; omega
  ·simp only [h, if_false, List.length_cons, Nat.zero_add]; omega
/-- How many go. -/
def goneN (l : List DtCSnap) (n : Int) : Int := max 0 ((bareN l : Int) - n)
theorem zpi (g : Int) : ∀ (l : List DtCSnap) (s : Int), (prn g s l).Sublist l
 | [], _ => List.Sublist.refl _
 | p :: l, s => by
  simp only [prn]
  split
  ·split
   ·exact (zpi g l _).trans (List.sublist_cons_self _ _)
   ·exact (zpi g l _).cons_cons _
  ·exact (zpi g l _).cons_cons _
/-- The same of the trees. -/
def prV (g : Int) : Int → List SnapV → List SnapV
 | _, [] => []
 | s, p :: l => if p.1.fTag = [] then (if s < g then prV g (s + 1) l else p :: prV g (s + 1) l) else p :: prV g s l
theorem zl4 (g : Int) : ∀ (l : List SnapV) (s : Int), (prV g s l).map (·.1) = prn g s (l.map (·.1))
 | [], _ => rfl
 | p :: l, s => by
  simp only [prV, prn, List.map_cons]
  split
  ·split
   ·exact zl4 g l _
   ·rw [List.map_cons, zl4 g l _]
  ·rw [List.map_cons, zl4 g l _]
theorem zho (g : Int) : ∀ (l : List SnapV) (s : Int), (prV g s l).Sublist l
 | [], _ => List.Sublist.refl _
 | p :: l, s => by
  simp only [prV]
  split
  ·split
   ·exact (zho g l _).trans (List.sublist_cons_self _ _)
   ·exact (zho g l _).cons_cons _
  ·exact (zho g l _).cons_cons _
theorem prV_snoc (g : Int) (l : List SnapV) (p : SnapV) : ∀ s : Int, prV g s (l ++ [p]) = prV g s l ++ (if p.1.fTag = [] ∧ s + bareN (l.map (·.1)) < g then [] else [p]) := by
 induction l with
 | nil =>
  intro s
  simp only [List.nil_append, prV, bareN, List.map_nil]
  by_cases h : p.1.fTag = [] <;> by_cases h2 : s < g <;> simp [h, h2]
 | cons q l ih =>
  intro s
  simp only [List.cons_append, prV, bareN, List.map_cons]
  by_cases h : q.1.fTag = []
  ·simp only [h, if_true]
   have e : s + ((1 + bareN (l.map (·.1)) : Nat) : Int) = s + 1 + (bareN (l.map (·.1)) : Int) := by omega
   rw [e]
   by_cases h2 : s < g
   ·simp only [h2, if_true, ih]
   ·simp only [h2, if_false, ih, List.cons_append]
  ·simp only [h, if_false, ih, List.cons_append, Nat.zero_add]
theorem zvi (g : Int) (l : List SnapV) (i : Nat) (h : i < l.length) : prV g 0 (l.take (i + 1)) = prV g 0 (l.take i) ++ (if l[i].1.fTag = [] ∧ (bareN ((l.map (·.1)).take i) : Int) < g then [] else [l[i]]) := by
 rw [List.take_succ_eq_append_getElem h, prV_snoc, List.map_take]; simp
def dig (n : Int) : List UInt8 := [UInt8.ofNat (48 + n.toNat)]
end Go.Proofs.YtmheohnbkaoipaaGreat.Vs

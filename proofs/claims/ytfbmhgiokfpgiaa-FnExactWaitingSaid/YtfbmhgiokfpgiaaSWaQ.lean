import Derived.Test.YtfbmhgiokfpgiaaSReQ
open Go Go.Proofs Go.Proofs.Ytfbmhgiokfpgiaa.Vs
namespace Go.Proofs.Ytfbmhgiokfpgiaa.Vs
set_option linter.all false
set_option linter.unusedSimpArgs false
set_option linter.unusedVariables false
set_option maxRecDepth 100000
noncomputable def waitL (l : List DtInst) : List DtId := (l.filter fun x => decide (x.fStatus = 3) && ! decB (RdyP l x.fId)).map (·.fId)
noncomputable def waT (l : List DtInst) (i : Nat) : List DtId := ((l.take i).filter fun x => decide (x.fStatus = 3) && ! decB (RdyP l x.fId)).map (·.fId)
theorem zf4 (l : List DtInst) : waT l 0 = [] := by unfold waT; simp
theorem zw6 (l : List DtInst) (i : Nat) (h : l.length ≤ i) : waT l i = waitL l := by unfold waT waitL; rw [List.take_of_length_le h]
theorem zm2 (l : List DtInst) (i : Nat) (h : i ≤ l.length) : (waT l i).length ≤ i := by
 unfold waT
 rw [List.length_map]
 exact Nat.le_trans (List.length_filter_le _ _) (by rw [List.length_take]; omega)
theorem waT_s (l : List DtInst) (i : Nat) (h : i < l.length) : (l[i].fStatus = 3 ∧ ¬ RdyP l l[i].fId → waT l (i + 1) = waT l i ++ [l[i].fId]) ∧ (¬ (l[i].fStatus = 3 ∧ ¬ RdyP l l[i].fId) → waT l (i + 1) = waT l i) := by
 unfold waT
 rw [List.take_succ_eq_append_getElem h, List.filter_append, List.map_append]
 constructor
 ·rintro ⟨h1, h2⟩
  rw [List.filter_cons_of_pos (by rw [zcu h2]; simp [h1])]
  rfl
 ·intro hn
  rw [List.filter_cons_of_neg (by
   intro hh
   rw [Bool.and_eq_true, decide_eq_true_eq, Bool.not_eq_true', zbb] at hh
   exact hn hh)]
  simp
end Go.Proofs.Ytfbmhgiokfpgiaa.Vs

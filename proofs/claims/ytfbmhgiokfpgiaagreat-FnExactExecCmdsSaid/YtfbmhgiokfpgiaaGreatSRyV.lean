import Derived.Test.YtfbmhgiokfpgiaaGreatSReQ
open Go Go.Proofs Go.Proofs.YtfbmhgiokfpgiaaGreat.Vs
namespace Go.Proofs.YtfbmhgiokfpgiaaGreat.Vs
set_option linter.all false
set_option linter.unusedSimpArgs false
set_option linter.unusedVariables false
theorem ztx {l : List DtInst} (h : InstsP l) (id : DtId) : (¬ cAt l id < 0) ↔ (instAt l id).fStatus = 3 := by
 rcases zp6 h id with ⟨h1, h2, h3⟩ | ⟨i, hi, h1, h2, h3, h4⟩
 ·exact ⟨fun h => absurd h1 h, fun h => absurd h h3⟩
 ·exact ⟨fun _ => by rw [h4]; exact h3, fun _ => by omega⟩
/-- What the program asks: all that is reached, and the instance itself. -/
theorem zv6 {l : List DtInst} (h : InstsP l) (id : DtId) : RdyP l id ↔ ∀ (j : Nat) x, (reachL l id ++ [id])[j]? = some x → (instAt l x).fStatus = 3 := by
 unfold RdyP
 rw [ztx h]
 constructor
 ·rintro ⟨h1, h2⟩ j x hx
  rcases List.mem_append.1 (List.mem_of_getElem? hx) with hm | hm
  ·obtain ⟨k, hk⟩ := List.getElem?_of_mem hm
   exact (ztx h x).1 (h2 k x hk)
  ·rw [List.mem_singleton] at hm; subst hm; exact h1
 ·intro h1
  have h2 : ∀ x ∈ reachL l id ++ [id], (instAt l x).fStatus = 3 := fun x hx => by
   obtain ⟨k, hk⟩ := List.getElem?_of_mem hx
   exact h1 k x hk
  exact ⟨h2 id (by simp), fun j x hx => (ztx h x).2 (h2 x (List.mem_append_left _ (List.mem_of_getElem? hx)))⟩
end Go.Proofs.YtfbmhgiokfpgiaaGreat.Vs

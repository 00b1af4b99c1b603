import Derived.Test.YtmheohnbkaoipaaGreatSCrQ
import Derived.Test.YtmheohnbkaoipaaGreatSFdQ
open Go Go.Proofs Go.Proofs.YtmheohnbkaoipaaGreat.Vs
namespace Go.Proofs.YtmheohnbkaoipaaGreat.Vs
set_option linter.all false
set_option linter.unusedSimpArgs false
set_option linter.unusedVariables false
/-! what a command does -/
theorem zvk (B : Nat) (l : List (List UInt8)) (h : ∀ x ∈ l, x.length ≤ B) : (spc l).length ≤ l.length * (B + 1) := by
 have key : ∀ l : List (List UInt8), (∀ x ∈ l, x.length ≤ B) → (l.flatMap fun t => (32 : UInt8) :: t).length ≤ l.length * (B + 1) := by
  intro l
  induction l with
  | nil => intro _; simp
  | cons y l ih =>
   intro h
   have h1 := h y (by simp)
   have h2 := ih fun x hx => h x (by simp [hx])
   simp only [List.flatMap_cons, List.length_append, List.length_cons, Nat.add_mul, Nat.one_mul] at h2 ⊢
   omega
 cases l with
 | nil => simp [spc]
 | cons y l =>
  have h1 := h y (by simp)
  have h2 := key l fun x hx => h x (by simp [hx])
  simp only [spc, List.length_append, List.length_cons, Nat.add_mul, Nat.one_mul] at h2 ⊢
  omega
theorem catP_bd {c : DtCatalog} (h : CatP c) : c.fSets.length ≤ 5 ∧ (∀ k (hk : k < c.fSets.length), c.fSets[k].fSnaps.length ≤ 5) ∧ (spc (namL c.fSets)).length ≤ 1073741824 ∧ ∀ k (hk : k < c.fSets.length), (spc (tldL c.fSets[k])).length ≤ 1073741824 := by
 obtain ⟨h1, h2⟩ := h
 have hs : ∀ k (hk : k < c.fSets.length), SetP c.fSets[k] := fun k hk => (h2 k _ (List.getElem?_eq_getElem hk)).1
 refine ⟨h1, fun k hk => (hs k hk).2.1, ?_, fun k hk => ?_⟩
 ·have := zvk 8 (namL c.fSets) fun x hx => by
   obtain ⟨s, hs', rfl⟩ := List.mem_map.1 hx
   obtain ⟨k, hk, rfl⟩ := List.getElem_of_mem hs'
   exact (hs k hk).1.2.1
  rw [zfl] at this
  omega
 ·have := zvk 17 (tldL c.fSets[k]) fun x hx => by
   obtain ⟨p, hp, rfl⟩ := List.mem_map.1 hx
   obtain ⟨j, hj, rfl⟩ := List.getElem_of_mem hp
   have h3 := ((hs k hk).2.2 j _ (List.getElem?_eq_getElem hj)).1
   have ha : (c.fSets[k].fSnaps[j]).fName.length ≤ 8 := by grind [SnapP, Word]
   have hb : (c.fSets[k].fSnaps[j]).fTag.length ≤ 8 := by grind [SnapP, Word]
   simp only [List.length_append, List.length_cons]
   omega
  have h4 := (hs k hk).2.1
  have h5 : (tldL c.fSets[k]).length = c.fSets[k].fSnaps.length := by simp [tldL]
  rw [h5] at this
  omega
noncomputable def setS (l : List DtCSet) (k : Nat) (m : DtCmd) : List DtCSet := if m.fKind = 2 then l.take k ++ l.drop (k + 1) else if h : k < l.length then (if m.fKind = 3 then l.set k (comS l[k] m) else if m.fKind = 4 then l.set k (tagS l[k] m) else if m.fKind = 5 then l.set k (pruS l[k] m.fN) else l) else l
noncomputable def setR (l : List DtCSet) (k : Nat) (m : DtCmd) : List UInt8 := if m.fKind = 2 then bOk else if h : k < l.length then (if m.fKind = 3 then comR l[k] m else if m.fKind = 4 then tagR l[k] m else if m.fKind = 5 then digN (goneN l[k].fSnaps m.fN).toNat else spc (tldL l[k])) else []
section
variable {l : List DtCSet} {k : Nat} {m : DtCmd}
theorem set_2 (h : m.fKind = 2) : setS l k m = l.take k ++ l.drop (k + 1) ∧ setR l k m = bOk := by unfold setS setR; rw [if_pos h, if_pos h]; exact ⟨rfl, rfl⟩
theorem zwz (hk : k < l.length) (h : m.fKind = 3) : setS l k m = l.set k (comS l[k] m) ∧ setR l k m = comR l[k] m := by unfold setS setR; rw [if_neg (by omega), dif_pos hk, if_pos h, if_neg (by omega), dif_pos hk, if_pos h]; exact ⟨rfl, rfl⟩
theorem set_4 (hk : k < l.length) (h : m.fKind = 4) : setS l k m = l.set k (tagS l[k] m) ∧ setR l k m = tagR l[k] m := by unfold setS setR; rw [if_neg (by omega), dif_pos hk, if_neg (by omega), if_pos h, if_neg (by omega), dif_pos hk, if_neg (by omega), if_pos h]; exact ⟨rfl, rfl⟩
theorem set_5 (hk : k < l.length) (h : m.fKind = 5) : setS l k m = l.set k (pruS l[k] m.fN) ∧ setR l k m = digN (goneN l[k].fSnaps m.fN).toNat := by unfold setS setR; rw [if_neg (by omega), dif_pos hk, if_neg (by omega), if_neg (by omega), if_pos h, if_neg (by omega), dif_pos hk, if_neg (by omega), if_neg (by omega), if_pos h]; exact ⟨rfl, rfl⟩
theorem set_6 (hk : k < l.length) (h2 : ¬ m.fKind = 2) (h3 : ¬ m.fKind = 3) (h4 : ¬ m.fKind = 4) (h5 : ¬ m.fKind = 5) : setS l k m = l ∧ setR l k m = spc (tldL l[k]) := by unfold setS setR; rw [if_neg h2, dif_pos hk, if_neg h3, if_neg h4, if_neg h5, if_neg h2, dif_pos hk, if_neg h3, if_neg h4, if_neg h5]; exact ⟨rfl, rfl⟩
end
noncomputable def catS (c : DtCatalog) (m : DtCmd) : List DtCSet := if decB (CatP c) = true then (if decB (CmdP m) = true then (if m.fKind = 0 then c.fSets else if m.fKind = 1 then creS c.fSets m.fSet else if m.fKind = 7 then c.fSets else if findS c.fSets m.fSet < 0 then c.fSets else setS c.fSets (findS c.fSets m.fSet).toNat m) else c.fSets) else []
noncomputable def catR (c : DtCatalog) (m : DtCmd) : List UInt8 := if decB (CatP c) = true then (if decB (CmdP m) = true then (if m.fKind = 0 then [] else if m.fKind = 1 then creR c.fSets m.fSet else if m.fKind = 7 then spc (namL c.fSets) else if findS c.fSets m.fSet < 0 then bNone else setR c.fSets (findS c.fSets m.fSet).toNat m) else []) else []
section
variable {c : DtCatalog} {m : DtCmd}
theorem zpl (h : ¬ CatP c) : catS c m = [] ∧ catR c m = [] := by unfold catS catR; rw [if_neg (by rw [zba]; exact h), if_neg (by rw [zba]; exact h)]; exact ⟨rfl, rfl⟩
theorem zpm (h : CatP c) (hm : ¬ CmdP m) : catS c m = c.fSets ∧ catR c m = [] := by unfold catS catR; rw [if_pos (zck h), if_pos (zck h), if_neg (by rw [zba]; exact hm), if_neg (by rw [zba]; exact hm)]; exact ⟨rfl, rfl⟩
theorem zpn (h : CatP c) (hm : CmdP m) (h0 : m.fKind = 0) : catS c m = c.fSets ∧ catR c m = [] := by unfold catS catR; rw [if_pos (zck h), if_pos (zck h), if_pos (zck hm), if_pos (zck hm), if_pos h0, if_pos h0]; exact ⟨rfl, rfl⟩
theorem zpo (h : CatP c) (hm : CmdP m) (h1 : m.fKind = 1) : catS c m = creS c.fSets m.fSet ∧ catR c m = creR c.fSets m.fSet := by unfold catS catR; rw [if_pos (zck h), if_pos (zck h), if_pos (zck hm), if_pos (zck hm), if_neg (by omega), if_pos h1, if_neg (by omega), if_pos h1]; exact ⟨rfl, rfl⟩
theorem zpp (h : CatP c) (hm : CmdP m) (h7 : m.fKind = 7) : catS c m = c.fSets ∧ catR c m = spc (namL c.fSets) := by unfold catS catR; rw [if_pos (zck h), if_pos (zck h), if_pos (zck hm), if_pos (zck hm), if_neg (by omega), if_neg (by omega), if_pos h7, if_neg (by omega), if_neg (by omega), if_pos h7]; exact ⟨rfl, rfl⟩
theorem zpq (h : CatP c) (hm : CmdP m) (h0 : ¬ m.fKind = 0) (h1 : ¬ m.fKind = 1) (h7 : ¬ m.fKind = 7) (hf : findS c.fSets m.fSet < 0) : catS c m = c.fSets ∧ catR c m = bNone := by unfold catS catR; rw [if_pos (zck h), if_pos (zck h), if_pos (zck hm), if_pos (zck hm), if_neg h0, if_neg h1, if_neg h7, if_pos hf, if_neg h0, if_neg h1, if_neg h7, if_pos hf]; exact ⟨rfl, rfl⟩
theorem cat_k (h : CatP c) (hm : CmdP m) (h0 : ¬ m.fKind = 0) (h1 : ¬ m.fKind = 1) (h7 : ¬ m.fKind = 7) {k : Nat} (hf : findS c.fSets m.fSet = k) : catS c m = setS c.fSets k m ∧ catR c m = setR c.fSets k m := by unfold catS catR; rw [if_pos (zck h), if_pos (zck h), if_pos (zck hm), if_pos (zck hm), if_neg h0, if_neg h1, if_neg h7, if_neg (by omega), if_neg h0, if_neg h1, if_neg h7, if_neg (by omega), hf]; exact ⟨rfl, rfl⟩
theorem zkt {l : List DtCSet} {n : List UInt8} {k : Nat} (hf : findS l n = k) : k < l.length := by
 have h := zl3 (fun p : DtCSet => eqB p.fName n) l (by show 0 ≤ findS l n; omega)
 change (findS l n).toNat < _ at h
 rw [hf] at h
 exact h
end
end Go.Proofs.YtmheohnbkaoipaaGreat.Vs

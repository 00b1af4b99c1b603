import Derived.Test.YtmheohnbkaoipaaVs4
import Derived.Lib.AppendZerosOnto
section
namespace Go.Proofs.Ytmheohnbkaoipaa.Vs
set_option linter.all false
open Go.RowKit
variable {P : Program}
theorem zfr {w : World} {b : Nat} : ∀ (A B : List AV) (o : Nat) (F : List Nat), RWc w b o (A ++ B) F ↔ ∃ F1 F2, F = F1 ++ F2 ∧ RWc w b o A F1 ∧ RWc w b (o + A.length) B F2
 | [], B, o, F => by
  simp only [List.nil_append, List.length_nil, Nat.add_zero]
  constructor
  ·intro h; exact ⟨[], F, rfl, by simp [RWc], h⟩
  ·rintro ⟨F1, F2, rfl, h1, h2⟩
   rw [RWc] at h1; subst h1; exact h2
 | c :: A, B, o, F => by
  rw [List.cons_append, RWc]
  constructor
  ·rintro ⟨F1, F2, rfl, h1, h2⟩
   obtain ⟨G1, G2, rfl, h3, h4⟩ := (zfr A B (o + 1) F2).1 h2
   refine ⟨F1 ++ G1, G2, by simp, ?_, ?_⟩
   ·rw [RWc]; exact ⟨F1, G1, rfl, h1, h3⟩
   ·rw [List.length_cons, show o + (A.length + 1) = o + 1 + A.length by omega]; exact h4
  ·rintro ⟨F1, F2, rfl, h1, h2⟩
   rw [RWc] at h1
   obtain ⟨G1, G2, rfl, h3, h4⟩ := h1
   refine ⟨G1, G2 ++ F2, by simp, h3, (zfr A B (o + 1) _).2 ⟨G2, F2, rfl, h4, ?_⟩⟩
   rwa [List.length_cons, show o + (A.length + 1) = o + 1 + A.length by omega] at h2
theorem zji {w : World} {b sz : Nat} : ∀ (A B : List (List AV)) (o : Nat) (F : List Nat), RWe w b sz o (A ++ B) F ↔ ∃ F1 F2, F = F1 ++ F2 ∧ RWe w b sz o A F1 ∧ RWe w b sz (o + A.length * sz) B F2
 | [], B, o, F => by
  simp only [List.nil_append, List.length_nil, Nat.zero_mul, Nat.add_zero]
  constructor
  ·intro h; exact ⟨[], F, rfl, by simp [RWe], h⟩
  ·rintro ⟨F1, F2, rfl, h1, h2⟩
   rw [RWe] at h1; subst h1; exact h2
 | c :: A, B, o, F => by
  rw [List.cons_append, RWe]
  have e : o + (A.length + 1) * sz = o + sz + A.length * sz := by rw [Nat.add_mul]; omega
  constructor
  ·rintro ⟨F1, F2, rfl, h0, h1, h2⟩
   obtain ⟨G1, G2, rfl, h3, h4⟩ := (zji A B (o + sz) F2).1 h2
   refine ⟨F1 ++ G1, G2, by simp, ?_, ?_⟩
   ·rw [RWe]; exact ⟨F1, G1, rfl, h0, h1, h3⟩
   ·rw [List.length_cons, e]; exact h4
  ·rintro ⟨F1, F2, rfl, h1, h2⟩
   rw [RWe] at h1
   obtain ⟨G1, G2, rfl, h0, h3, h4⟩ := h1
   refine ⟨G1, G2 ++ F2, by simp, h0, h3, (zji A B (o + sz) _).2 ⟨G2, F2, rfl, h4, ?_⟩⟩
   rwa [List.length_cons, e] at h2
theorem zsf {α : Type} (xs : List α) (i : Nat) (h : i < xs.length) : xs = xs.take i ++ xs[i] :: xs.drop (i + 1) := by
 rw [List.getElem_cons_drop, List.take_append_drop]
theorem zqr {w : World} {b sz : Nat} {xs : List (List AV)} {F : List Nat} {i : Nat} (hi : i < xs.length) : RWe w b sz 0 xs F ↔ ∃ F1 Fx F2, F = F1 ++ (Fx ++ F2) ∧ RWe w b sz 0 (xs.take i) F1 ∧ xs[i].length = sz ∧ RWc w b (i * sz) xs[i] Fx ∧ RWe w b sz ((i + 1) * sz) (xs.drop (i + 1)) F2 := by
 have e : (xs.take i).length = i := by simp; omega
 constructor
 ·intro h
  rw [zsf xs i hi, zji] at h
  obtain ⟨F1, F2, rfl, h1, h2⟩ := h
  rw [RWe] at h2
  obtain ⟨Fx, G, rfl, h3, h4, h5⟩ := h2
  rw [e, Nat.zero_add] at h4 h5
  exact ⟨F1, Fx, G, rfl, h1, h3, h4, by rwa [Nat.add_mul, Nat.one_mul]⟩
 ·rintro ⟨F1, Fx, F2, rfl, h1, h2, h3, h4⟩
  rw [zsf xs i hi, zji]
  refine ⟨F1, Fx ++ F2, rfl, h1, ?_⟩
  rw [RWe, e, Nat.zero_add]
  exact ⟨Fx, F2, rfl, h2, h3, by rwa [Nat.add_mul, Nat.one_mul] at h4⟩
theorem zx7 {w : World} {b sz : Nat} {xs : List (List AV)} {i : Nat} (hi : i < xs.length) {x' : List AV} {F1 Fx F2 : List Nat} (h1 : RWe w b sz 0 (xs.take i) F1) (hl : x'.length = sz) (h2 : RWc w b (i * sz) x' Fx) (h3 : RWe w b sz ((i + 1) * sz) (xs.drop (i + 1)) F2) : RWe w b sz 0 (xs.set i x') (F1 ++ (Fx ++ F2)) := by
 have hi' : i < (xs.set i x').length := by simpa using hi
 rw [zqr hi']
 refine ⟨F1, Fx, F2, rfl, ?_, by simpa using hl, by simpa using h2, ?_⟩
 ·rw [List.take_set_of_le (Nat.le_refl _)]; exact h1
 ·rw [List.drop_set_of_lt (by omega)]; exact h3
theorem zn5 {w w' : World} {b : Nat} : ∀ (cs : List AV) (o : Nat) (F : List Nat), (∀ j, j < cs.length → w'.cell? ⟨b, o + j, none⟩ = w.cell? ⟨b, o + j, none⟩) → (∀ c ∈ F, w'.heap[c]? = w.heap[c]?) → RWc w b o cs F → RWc w' b o cs F
 | [], o, F, _, _, h => by simpa [RWc] using h
 | c :: cs, o, F, hc, hF, h => by
  rw [RWc] at h ⊢
  obtain ⟨F1, F2, rfl, ⟨v, h1, h2⟩, h3⟩ := h
  refine ⟨F1, F2, rfl, ⟨v, ?_, zks _ _ F1 (fun d hd => hF d (by simp [hd])) h2⟩, zn5 cs (o + 1) F2 (fun j hj => ?_) (fun d hd => hF d (by simp [hd])) h3⟩
  ·have := hc 0 (by simp); rw [Nat.add_zero] at this; rw [this]; exact h1
  ·have := hc (j + 1) (by simpa using hj); rwa [show o + (j + 1) = o + 1 + j by omega] at this
theorem zn6 {w w' : World} {b sz : Nat} : ∀ (xs : List (List AV)) (o : Nat) (F : List Nat), (∀ j, j < xs.length * sz → w'.cell? ⟨b, o + j, none⟩ = w.cell? ⟨b, o + j, none⟩) → (∀ c ∈ F, w'.heap[c]? = w.heap[c]?) → RWe w b sz o xs F → RWe w' b sz o xs F
 | [], o, F, _, _, h => by simpa [RWe] using h
 | x :: xs, o, F, hc, hF, h => by
  rw [RWe] at h ⊢
  obtain ⟨F1, F2, rfl, h0, h1, h2⟩ := h
  refine ⟨F1, F2, rfl, h0, zn5 x o F1 (fun j hj => hc j ?_) (fun d hd => hF d (by simp [hd])) h1, zn6 xs (o + sz) F2 (fun j hj => ?_) (fun d hd => hF d (by simp [hd])) h2⟩
  ·rw [List.length_cons, Nat.add_mul]; omega
  ·have := hc (sz + j) (by rw [List.length_cons, Nat.add_mul]; omega); rwa [show o + (sz + j) = o + sz + j by omega] at this
def swl1 (st : St) : AV → Option AV
 | .g v => some (.g v)
 | .s l => some (.s l)
 | .arr m 0 len => match st.ob m with
  | some (.own s ys) => if len = ys.length then some (.sl s ys) else none
  | some (.flat s ys) => if len = ys.length ∧ scR ys = true then some (.sl s ys) else none
  | some (.win s ys) => if len = ys.length ∧ scR ys = true then some (.sl s ys) else none
  | _ => none
 | _ => none
def swl (st : St) : List AV → Option (List AV)
 | [] => some []
 | c :: cs => match swl1 st c, swl st cs with
  | some c', some cs' => some (c' :: cs')
  | _, _ => none
section
variable {C : Cx} {st : St} {a : Act} {w : World} {I : Nat → Prop} {β : Beta} {φ : Nat → List Nat}
theorem ownRO (hC : Conc C st a w I β φ) {m s : Nat} {ys : List (List AV)} (h : st.ob m = some (.own s ys) ∨ (st.ob m = some (.flat s ys) ∧ scR ys = true) ∨ (st.ob m = some (.win s ys) ∧ scR ys = true)) :
 ∃ bl, β m = some bl ∧ bl.sz = s ∧ bl.o = 0 ∧ ys.length ≤ bl.cap ∧ (φ m).Nodup ∧ ((bl.cap = 0 ∧ φ m = []) ∨ ∃ F', φ m = bl.b :: F' ∧ OwnW w bl.b 0 (bl.cap * s) ∧ RWe w bl.b s 0 ys F') := by
 rcases h with h | ⟨h, hs⟩ | ⟨h, hs⟩
 ·exact hC.ob _ _ h
 ·obtain ⟨bl, g1, g2, g3, g4, g5⟩ := hC.ob _ _ h
  exact ⟨bl, g1, g2, g3, g4, by rcases g5 with ⟨-, h⟩ | ⟨h, -⟩ <;> rw [h] <;> simp, g5.imp id fun g => ⟨[], g.1, g.2.1, zfk (I := I) (β := β) _ _ hs (zgb _ _ g.2.2)⟩⟩
 ·obtain ⟨bl, g1, g2, g3, g4, g5⟩ := hC.ob _ _ h
  exact ⟨bl, g1, g2, g3, g4, by rcases g5 with ⟨-, h⟩ | ⟨h, -⟩ <;> rw [h] <;> simp, g5.imp id fun g => ⟨[], g.1, g.2.1, zfk (I := I) (β := β) _ _ hs g.2.2⟩⟩
def fpt (φ : Nat → List Nat) : AV → List Nat
 | .arr m _ _ => φ m
 | _ => []
theorem zt1 {m off len : Nat} {c' : AV} (h : swl1 st (.arr m off len) = some c') : ∃ s ys, off = 0 ∧ len = ys.length ∧ c' = .sl s ys ∧ (st.ob m = some (.own s ys) ∨ (st.ob m = some (.flat s ys) ∧ scR ys = true) ∨ (st.ob m = some (.win s ys) ∧ scR ys = true)) := by
 cases off with
 | succ n => cases h
 | zero =>
  unfold swl1 at h
  split at h
  ·rename_i hq; cases hq
  ·rename_i hq; cases hq
  ·rename_i m' len' heq
   cases heq
   split at h
   ·rename_i s ys ho
    split at h
    ·cases h; exact ⟨s, ys, rfl, by assumption, rfl, .inl ho⟩
    ·cases h
   ·rename_i s ys ho
    split at h
    ·rename_i hh; cases h; exact ⟨s, ys, rfl, hh.1, rfl, .inr (.inl ⟨ho, hh.2⟩)⟩
    ·cases h
   ·rename_i s ys ho
    split at h
    ·rename_i hh; cases h; exact ⟨s, ys, rfl, hh.1, rfl, .inr (.inr ⟨ho, hh.2⟩)⟩
    ·cases h
   ·cases h
  ·cases h
theorem zwc (hC : Conc C st a w I β φ) {c c' : AV} (h : swl1 st c = some c') {v : Value} (hv : Rv1 w I β c v) (h1 : v.oneCell' = true) : ∃ F, F.Nodup ∧ (∀ b ∈ F, b ∈ fpt φ c) ∧ RW w c' v F := by
 cases c with
 | g x => cases h; cases hv; exact ⟨[], by simp, by simp, by rw [RW]; exact ⟨rfl, h1, rfl⟩⟩
 | s l => cases h; exact ⟨[], by simp, by simp, by rw [RW]; exact ⟨hv, rfl⟩⟩
 | arr m off len =>
  obtain ⟨s, ys, rfl, rfl, rfl, ho⟩ := zt1 h
  obtain ⟨bl, g1, g2, g3, g4, g5, g6⟩ := ownRO hC ho
  obtain ⟨bl', g7, g8, g9⟩ := hv
  rw [g1] at g7; cases g7
  rcases g9 with rfl | ⟨g9, a0, rfl⟩
  ·rcases g6 with ⟨g6, g10⟩ | ⟨F', g6, g10, g11⟩
   ·refine ⟨[], by simp, by simp, ?_⟩
    rw [RW]
    exact ⟨_, _, rfl, by omega, .inl ⟨List.length_eq_zero_iff.1 (by omega), by omega, rfl⟩⟩
   ·refine ⟨φ m, g5, fun b hb => hb, ?_⟩
    rw [RW, g3]
    simp only [Nat.zero_mul, Nat.add_zero, Nat.sub_zero]
    exact ⟨_, _, rfl, g4, .inr ⟨bl.b, F', rfl, g6, g10, g11⟩⟩
  ·have hy : ys = [] := List.length_eq_zero_iff.1 (by omega)
   subst hy
   refine ⟨[], by simp, by simp, ?_⟩
   rw [RW]
   exact ⟨a0, 0, rfl, Nat.le_refl _, .inl ⟨rfl, rfl, rfl⟩⟩
 | _ => cases h
theorem swls (hC : Conc C st a w I β φ) : ∀ (new new' : List AV), swl st new = some new' → (arrN new).Nodup → ∀ (vs : List Value), (∀ (j : Nat) c, new[j]? = some c → ∃ v, vs[j]? = some v ∧ Rv1 w I β c v ∧ v.oneCell' = true) →
 new'.length = new.length ∧ ∃ F, F.Nodup ∧ (∀ b ∈ F, ∃ m ∈ arrN new, b ∈ φ m) ∧ ∀ (w' : World) (b o : Nat), (∀ d ∈ F, w'.heap[d]? = w.heap[d]?) → (∀ (j : Nat) v, vs[j]? = some v → j < new.length → w'.cell? ⟨b, o + j, none⟩ = some v) → RWc w' b o new' F
 | [], new', h, _, vs, _ => by cases h; exact ⟨rfl, [], by simp, by simp, fun w' b o _ _ => by simp [RWc]⟩
 | c :: cs, new', h, hnd, vs, hv => by
  unfold swl at h
  split at h
  ·rename_i c' cs' h1 h2
   cases h
   obtain ⟨v, k1, k2, k3⟩ := hv 0 c rfl
   obtain ⟨F1, f1, f2, f3⟩ := zwc hC h1 k2 k3
   have hnd2 : (arrN cs).Nodup := by cases c <;> first | exact hnd | exact (List.nodup_cons.1 hnd).2
   obtain ⟨vs', rfl⟩ : ∃ vs', vs = v :: vs' := by cases vs with
    | nil => simp at k1
    | cons u us => simp at k1; exact ⟨us, by rw [k1]⟩
   obtain ⟨g0, F2, g1, g2, g3⟩ := swls hC cs cs' h2 hnd2 vs' fun j d hd => by simpa using hv (j + 1) d (by simpa using hd)
   have hdis : ∀ b, b ∈ F1 → b ∈ F2 → False := by
    intro b hb1 hb2
    obtain ⟨m, hm, hb2⟩ := g2 b hb2
    have hb1 := f2 b hb1
    cases c with
    | arr k off len =>
     have hne : k ≠ m := by rintro rfl; exact (List.nodup_cons.1 hnd).1 hm
     exact hC.sep k m hne b hb1 hb2
    | _ => simp [fpt] at hb1
   refine ⟨by simp [g0], F1 ++ F2, List.nodup_append.2 ⟨f1, g1, fun a ha b hb e => hdis a ha (e ▸ hb)⟩, ?_, ?_⟩
   ·intro b hb
    rcases List.mem_append.1 hb with hb | hb
    ·have := f2 b hb
     cases c with
     | arr k off len => exact ⟨k, List.mem_cons_self, this⟩
     | _ => simp [fpt] at this
    ·obtain ⟨m, hm, hb⟩ := g2 b hb
     refine ⟨m, ?_, hb⟩
     cases c <;> first | exact hm | exact List.mem_cons_of_mem _ hm
   ·intro w' b o hw hc
    rw [RWc]
    refine ⟨F1, F2, rfl, ⟨v, ?_, zks _ _ F1 (fun d hd => hw d (by simp [hd])) f3⟩, g3 w' b (o + 1) (fun d hd => hw d (by simp [hd])) fun j u hu hj => ?_⟩
    ·have := hc 0 v rfl (by simp); rwa [Nat.add_zero] at this
    ·have := hc (j + 1) u (by simpa using hu) (by simpa using hj); rwa [show o + (j + 1) = o + 1 + j by omega] at this
  ·cases h
theorem zhw {ob : Nat → Option OB} : ∀ (D : List Nat) (k : Nat), updL ob (D.map fun d => (d, OB.dead)) k = if k ∈ D then some .dead else ob k
 | [], k => by simp [updL]
 | d :: D, k => by
  rw [List.map_cons, zci, zhw D k]
  by_cases h : k ∈ D
  ·simp [h]
  ·by_cases h2 : k = d
   ·subst h2; simp [zbj, h]
   ·simp [h, h2, zbg]
theorem Conc.absorb (hC : Conc C st a w I β φ) {w' : World} {n : Nat} {D : List Nat} {o' : OB} {F : List Nat} (hev : Evo (· ∈ φ n) w w') (hn : st.ob n ≠ none) (hnD : n ∉ D) (hD : ∀ d ∈ D, st.ob d ≠ none)
 (hF : ∀ b ∈ F, b ∈ φ n ∨ ∃ d ∈ D, b ∈ φ d) (hY : ∀ b ∈ φ n, ¬ C.Y b) (hDY : ∀ d ∈ D, ∀ b ∈ φ d, ¬ C.Y b) (hof : ∀ sz xs, o' ≠ .flat sz xs) (hro : RO w' I β n o' F) :
 Conc C { st with ob := updL st.ob (D.map (fun d => (d, OB.dead)) ++ [(n, o')]) } a w' I β (fun k => if k = n then F else if k ∈ D then [] else φ k) := by
 have hob : ∀ k, updL st.ob (D.map (fun d => (d, OB.dead)) ++ [(n, o')]) k = if k = n then some o' else if k ∈ D then some .dead else st.ob k := by
  intro k
  rw [zdd, zci, zj6]
  by_cases h : k = n
  ·subst h; simp [zbj]
  ·rw [zbg _ _ h, zhw, if_neg h]
 have hnone : ∀ k, updL st.ob (D.map (fun d => (d, OB.dead)) ++ [(n, o')]) k = none → k ≠ n ∧ k ∉ D ∧ st.ob k = none := by
  intro k hk
  rw [hob] at hk
  by_cases h : k = n
  ·rw [if_pos h] at hk; cases hk
  ·rw [if_neg h] at hk
   by_cases h2 : k ∈ D
   ·rw [if_pos h2] at hk; cases hk
   ·rw [if_neg h2] at hk; exact ⟨h, h2, hk⟩
 have hmem : ∀ k b, b ∈ (if k = n then F else if k ∈ D then [] else φ k) → (k = n ∧ b ∈ F) ∨ (k ≠ n ∧ k ∉ D ∧ b ∈ φ k) := by
  intro k b hb
  by_cases h : k = n
  ·rw [if_pos h] at hb; exact .inl ⟨h, hb⟩
  ·rw [if_neg h] at hb
   by_cases h2 : k ∈ D
   ·rw [if_pos h2] at hb; simp at hb
   ·rw [if_neg h2] at hb; exact .inr ⟨h, h2, hb⟩
 have hsrc : ∀ b ∈ F, ∃ k, (k = n ∨ k ∈ D) ∧ b ∈ φ k := by
  intro b hb
  rcases hF b hb with h | ⟨d, h1, h2⟩
  ·exact ⟨n, .inl rfl, h⟩
  ·exact ⟨d, .inr h1, h2⟩
 refine hC.move (· ∈ φ n) hev (fun b hb => ⟨n, hb, hY b hb⟩) (fun _ hb => hb) (fun _ hb => .inl hb) (fun _ _ hb => hb) ?_ (fun k hk => hC.dom k (hnone k hk).2.2) ?_ ?_ ?_ ?_ ?_ ?_
 ·intro k o ho
  rw [hob] at ho
  by_cases h : k = n
  ·subst h
   rw [if_pos rfl] at ho; cases ho
   simp only [if_pos]
   exact .inr hro
  ·rw [if_neg h] at ho
   simp only [if_neg h]
   by_cases h2 : k ∈ D
   ·rw [if_pos h2] at ho; cases ho
    rw [if_pos h2]
    exact .inr rfl
   ·rw [if_neg h2] at ho
    rw [if_neg h2]
    exact .inl ⟨ho, rfl, fun b hb hb' => hC.sep k n h b hb hb'⟩
 ·intro k hk
  obtain ⟨h1, h2, h3⟩ := hnone k hk
  simp only [if_neg h1, if_neg h2]
  exact hC.fdom k h3
 ·intro k l hkl b hb hb'
  rcases hmem k b hb with ⟨rfl, h1⟩ | ⟨h1, h2, h3⟩
  ·rcases hmem l b hb' with ⟨rfl, -⟩ | ⟨h4, h5, h6⟩
   ·exact hkl rfl
   ·obtain ⟨m, hm, hbm⟩ := hsrc b h1
    exact hC.sep m l (by rintro rfl; rcases hm with rfl | hm; exact h4 rfl; exact h5 hm) b hbm h6
  ·rcases hmem l b hb' with ⟨rfl, h4⟩ | ⟨h4, h5, h6⟩
   ·obtain ⟨m, hm, hbm⟩ := hsrc b h4
    exact hC.sep k m (by rintro rfl; rcases hm with rfl | hm; exact h1 rfl; exact h2 hm) b h3 hbm
   ·exact hC.sep k l hkl b h3 h6
 ·intro k b hb
  rcases hmem k b hb with ⟨-, h1⟩ | ⟨-, -, h1⟩
  ·obtain ⟨m, -, hbm⟩ := hsrc b h1; exact hC.nimm m b hbm
  ·exact hC.nimm k b h1
 ·intro k b hb
  have : b < w.heap.size ∧ (C.X b ∨ C.Y b ∨ C.w0.heap.size ≤ b) := by
   rcases hmem k b hb with ⟨-, h1⟩ | ⟨-, -, h1⟩
   ·obtain ⟨m, -, hbm⟩ := hsrc b h1; exact hC.flt m b hbm
   ·exact hC.flt k b h1
  exact ⟨Nat.lt_of_lt_of_le this.1 hev.size, this.2⟩
 ·intro k o ho hwr b hb
  rcases hmem k b hb with ⟨rfl, h1⟩ | ⟨h1, h2, h3⟩
  ·rcases hF b h1 with h | ⟨d, h2, h3⟩
   ·exact hY b h
   ·exact hDY d h2 b h3
  ·rw [hob, if_neg h1, if_neg h2] at ho
   exact hC.wok k o ho hwr b h3
 ·intro k sz xs ho b hb
  rcases hmem k b hb with ⟨rfl, h1⟩ | ⟨h1, h2, h3⟩
  ·rw [hob, if_pos rfl] at ho; exact (hof sz xs (Option.some.inj ho)).elim
  ·rw [hob, if_neg h1, if_neg h2] at ho
   exact hC.fnew k sz xs ho b h3
theorem zx8 {b : Nat} {F1 Fa Fo Fb F2 Fn : List Nat} (h : (b :: (F1 ++ ((Fa ++ (Fo ++ Fb)) ++ F2))).Nodup) (hn : Fn.Nodup) (hd : ∀ x ∈ Fn, x ∉ b :: (F1 ++ ((Fa ++ (Fo ++ Fb)) ++ F2))) : (b :: (F1 ++ ((Fa ++ (Fn ++ Fb)) ++ F2))).Nodup := by
 simp only [List.nodup_cons, List.nodup_append, List.mem_append, List.mem_cons, not_or] at h hd ⊢
 grind
theorem zsg (x new : List AV) (f : Nat) (h : f + new.length ≤ x.length) : setCells x f new = x.take f ++ (new ++ x.drop (f + new.length)) := by
 unfold setCells
 split
 ·rename_i v
  have : f < x.length := by simp at h; omega
  rw [List.set_eq_take_append_cons_drop, if_pos this]
  rfl
 ·rw [List.append_assoc]
def stO (P : Program) (st : St) (T : TI) (new : List AV) (n i f sz : Nat) (xs : List (List AV)) : ARes :=
 match swl st new with
 | some new' => some (new.length = T.size ∧ new.all isOne = true ∧ f + new.length ≤ sz ∧ i < xs.length ∧ (arrN new).Nodup ∧ (arrN new).contains n = false, .g undef, (arrN new).map (fun d => (d, OB.dead)) ++ [(n, .own sz (xs.set i (setCells (xs.getD i []) f new')))])
 | none => none
def aStoreO (P : Program) (st : St) (t : TypeId) (x v : AV) : ARes :=
 match ti P t, valCells v with
 | some T, some new => match x with
  | .eptr n i f => match st.ob n with
   | some (.own sz xs) => stO P st T new n i f sz xs
   | some (.ownh sz xs _) => stO P st T new n i f sz xs
   | _ => none
  | _ => none
 | _, _ => none
def aIndexAddrO (P : Program) (st : St) (t : TypeId) (x i : AV) : ARes :=
 match ti P t, x, i with
 | some T, .arr m off len, .g (.int _ n) => match T.kind with
  | .slice e => match ti P e with
   | some E => match st.ob m with
    | some (.own sz _) => some (0 ≤ n ∧ n < len ∧ E.size = sz, .eptr m (off + n.toNat) 0, [])
    | some (.ownh sz _ _) => some (0 ≤ n ∧ n < len ∧ E.size = sz, .eptr m (off + n.toNat) 0, [])
    | _ => none
   | none => none
  | _ => none
 | _, _, _ => none
def ldO (T : TI) (xs : List (List AV)) (i f : Nat) : ARes :=
 if T.agg then some (T.size ≤ ((xs.getD i []).drop f).length ∧ (((xs.getD i []).drop f).take T.size).all scal0 = true, .agg (((xs.getD i []).drop f).take T.size), []) else match (xs.getD i []).drop f with
  | .g v :: _ => some (True, .g v, [])
  | .s v :: _ => some (True, .s v, [])
  | _ => none
def aLoadO (P : Program) (st : St) (t : TypeId) (x : AV) : ARes :=
 match ti P t, x with
 | some T, .eptr n i f => match st.ob n with
  | some (.own _ xs) => ldO T xs i f
  | some (.ownh _ xs _) => ldO T xs i f
  | _ => none
 | _, _ => none
def nestC (P : Program) (t : TypeId) (n i f sz : Nat) (xs : List (List AV)) (hs : List (Nat × Nat × Value)) : Option (Nat × (Value → OB)) :=
 match ti P t with
 | some T => if T.agg then none else match (xs.getD i []).drop f with
  | .sl _ _ :: _ => some (n, fun v => .ownh sz xs ((i, f, v) :: hs))
  | _ => none
 | none => none
def nestL (P : Program) (st : St) (t : TypeId) (x : AV) : Option (Nat × (Value → OB)) :=
 match x with
 | .eptr n i f => match st.ob n with
  | some (.own sz xs) => nestC P t n i f sz xs []
  | some (.ownh sz xs hs) => nestC P t n i f sz xs hs
  | _ => none
 | _ => none
theorem ownhRO (hC : Conc C st a w I β φ) {m s : Nat} {ys : List (List AV)} (h : st.ob m = some (.own s ys) ∨ ∃ hs, st.ob m = some (.ownh s ys hs)) :
 (∃ bl, β m = some bl ∧ bl.sz = s ∧ bl.o = 0 ∧ ys.length ≤ bl.cap ∧ (φ m).Nodup ∧ ((bl.cap = 0 ∧ φ m = []) ∨ ∃ F', φ m = bl.b :: F' ∧ OwnW w bl.b 0 (bl.cap * s) ∧ RWe w bl.b s 0 ys F')) ∧ ∀ b ∈ φ m, ¬ C.Y b := by
 rcases h with h | ⟨hs, h⟩
 ·exact ⟨hC.ob _ _ h, hC.wok _ _ h rfl⟩
 ·obtain ⟨bl, g1, g2, g3, g4, g5, g6⟩ := hC.ob _ _ h
  exact ⟨⟨bl, g1, g2, g3, g4, g5, g6.imp id fun ⟨F', k1, k2, k3, _⟩ => ⟨F', k1, k2, k3⟩⟩, hC.wok _ _ h rfl⟩
theorem zgn : ∀ (new new' : List AV), swl st new = some new' → ∀ m ∈ arrN new, ∃ s ys, st.ob m = some (.own s ys) ∨ (st.ob m = some (.flat s ys) ∧ scR ys = true) ∨ (st.ob m = some (.win s ys) ∧ scR ys = true)
 | [], _, _, m, hm => by simp [arrN] at hm
 | c :: cs, new', h, m, hm => by
  unfold swl at h
  split at h
  ·rename_i c' cs' h1 h2
   cases c with
   | arr k off len =>
    rcases List.mem_cons.1 hm with rfl | hm
    ·obtain ⟨s, ys, -, -, -, ho⟩ := zt1 h1
     exact ⟨s, ys, ho⟩
    ·exact zgn cs cs' h2 m hm
   | _ => exact zgn cs cs' h2 m hm
  ·cases h
theorem noY_of (hC : Conc C st a w I β φ) {m s : Nat} {ys : List (List AV)} (h : st.ob m = some (.own s ys) ∨ (st.ob m = some (.flat s ys) ∧ scR ys = true) ∨ (st.ob m = some (.win s ys) ∧ scR ys = true)) : ∀ b ∈ φ m, ¬ C.Y b := by
 rcases h with h | ⟨h, -⟩ | ⟨h, -⟩
 ·exact hC.wok _ _ h rfl
 ·intro b hb hy
  have := hC.fnew _ _ _ h b hb
  have := hC.ylt b hy
  omega
 ·exact hC.wok _ _ h rfl
theorem zqs (hC : Conc C st a w I β φ) {t : TypeId} {T : TI} {new : List AV} {n i f sz : Nat} {xs : List (List AV)} {v : AV} {x y : Value} {c : Prop} {u : Ups} {inf : TypeInfo} (hi : P.info? t = some inf) (hT : T.size = inf.size)
 (hob : st.ob n = some (.own sz xs) ∨ ∃ hs, st.ob n = some (.ownh sz xs hs)) (hx : Rv w I β (.eptr n i f) x) (hv1 : new.all isOne = true → Rv1s w I β new y.cells.toList) (hv2 : new.all isOne = true → ∀ z ∈ y.cells.toList, z.oneCell' = true) (h : stO P st T new n i f sz xs = some (c, v, u)) (hc : c) :
 v = .g undef ∧ ∃ w' φ', (Instr.storeAt t x y).run P w = .ok () w' ∧ Conc C { st with ob := updL st.ob u } a w' I β φ' := by
 unfold stO at h
 split at h
 ·rename_i new' hsw
  cases h
  obtain ⟨h1, h2, h3, h4, h5, h6⟩ := hc
  have hnn : n ∉ arrN new := by simpa using h6
  obtain ⟨hl, hg⟩ := zdm _ _ (hv1 h2)
  obtain ⟨⟨bl, g1, g2, g3, g4, g5, g6⟩, gY⟩ := ownhRO hC hob
  obtain ⟨bl', hb', rfl⟩ := hx
  rw [g1] at hb'; cases hb'
  rcases g6 with ⟨g6, -⟩ | ⟨F', gφ, ⟨arr, ty, hh, hsize⟩, grc⟩
  ·omega
  subst g2
  rw [g3, Nat.zero_add]
  have hbig : i * bl.sz + bl.sz ≤ bl.cap * bl.sz := by
   have : (i + 1) * bl.sz ≤ bl.cap * bl.sz := Nat.mul_le_mul_right _ (by omega)
   rwa [Nat.add_mul, Nat.one_mul] at this
  have hlen : y.cells.toList.length = new.length := hl.symm
  have hrun := run_storeCells_at P bl.b (i * bl.sz + f) ty y.cells.toList 0 arr w hh (by omega) (hv2 h2)
  have hnew := setRow_heap w bl.b arr (arr.toList.take (i * bl.sz + f + 0) ++ y.cells.toList ++ arr.toList.drop (i * bl.sz + f + 0 + y.cells.toList.length)).toArray ty (0, 0) hh
  have hspl : ∀ k, (w.setRow bl.b (arr.toList.take (i * bl.sz + f + 0) ++ y.cells.toList ++ arr.toList.drop (i * bl.sz + f + 0 + y.cells.toList.length)).toArray).cell? ⟨bl.b, k, none⟩ =
   if i * bl.sz + f ≤ k ∧ k < i * bl.sz + f + y.cells.toList.length then y.cells.toList[k - (i * bl.sz + f)]? else arr[k]? := by
   intro k
   rw [zc1 hnew, List.getElem?_toArray, zdw _ _ _ (by simp only [Array.length_toList] at hlen ⊢; omega)]
   simp only [Nat.zero_add, Nat.add_zero, Array.getElem?_toList]
  have hoth : ∀ k, k ≠ bl.b → (w.setRow bl.b (arr.toList.take (i * bl.sz + f + 0) ++ y.cells.toList ++ arr.toList.drop (i * bl.sz + f + 0 + y.cells.toList.length)).toArray).heap[k]? = w.heap[k]? := fun k hk => setRow_other w bl.b k _ hk
  generalize hw' : w.setRow bl.b (arr.toList.take (i * bl.sz + f + 0) ++ y.cells.toList ++ arr.toList.drop (i * bl.sz + f + 0 + y.cells.toList.length)).toArray = w' at hrun hnew hspl hoth
  have hevo : Evo (· ∈ φ n) w w' := by rw [← hw']; exact zdo _ _ _ _ (by rw [gφ]; simp)
  have hsame : ∀ k, ¬ (i * bl.sz + f ≤ k ∧ k < i * bl.sz + f + new.length) → w'.cell? ⟨bl.b, k, none⟩ = w.cell? ⟨bl.b, k, none⟩ := by
   intro k hk
   rw [hspl, if_neg (by rw [hlen]; exact hk), zc1 hh]
  obtain ⟨n1, Fn, n2, n3, n4⟩ := swls hC new new' hsw h5 y.cells.toList (fun j c hc => by
   obtain ⟨v, k1, k2⟩ := hg j c hc
   exact ⟨v, k1, k2, hv2 h2 v (List.mem_of_getElem? k1)⟩)
  -- the row's parts
  obtain ⟨F1, Fx, F2, rfl, r1, r2, r3, r4⟩ := (zqr h4).1 grc
  have hgd : xs.getD i [] = xs[i] := by simp [List.getD, h4]
  have hfit : f + new'.length ≤ xs[i].length := by rw [r2, n1]; exact h3
  have hxi : xs[i] = xs[i].take f ++ ((xs[i].drop f).take new'.length ++ xs[i].drop (f + new'.length)) := by
   rw [← List.drop_drop, List.take_append_drop, List.take_append_drop]
  rw [hxi, zfr] at r3
  obtain ⟨Fa, Fr, rfl, s1, s2⟩ := r3
  rw [zfr] at s2
  obtain ⟨Fo, Fb, rfl, -, s3⟩ := s2
  have ltake : (xs[i].take f).length = f := by simp; omega
  have lmid : ((xs[i].drop f).take new'.length).length = new'.length := by simp; omega
  rw [ltake, lmid] at s3
  rw [gφ] at g5
  have hbn : ∀ d ∈ F1 ++ ((Fa ++ (Fo ++ Fb)) ++ F2), d ≠ bl.b := by
   rintro d hd rfl
   exact (List.nodup_cons.1 g5).1 hd
  have hdis : ∀ d ∈ Fn, d ∉ bl.b :: (F1 ++ ((Fa ++ (Fo ++ Fb)) ++ F2)) := by
   intro d hd hd'
   obtain ⟨m, hm, hdm⟩ := n3 d hd
   rw [← gφ] at hd'
   exact hC.sep m n (by rintro rfl; exact hnn hm) d hdm hd'
  have hD : ∀ d ∈ arrN new, st.ob d ≠ none := by
   intro d hd
   obtain ⟨s, ys, ho⟩ := zgn new new' hsw d hd
   rcases ho with ho | ⟨ho, -⟩ | ⟨ho, -⟩ <;> rw [ho] <;> simp
  have hDY : ∀ d ∈ arrN new, ∀ b ∈ φ d, ¬ C.Y b := by
   intro d hd
   obtain ⟨s, ys, ho⟩ := zgn new new' hsw d hd
   exact noY_of hC ho
  have hro : RO w' I β n (.own bl.sz (xs.set i (setCells (xs.getD i []) f new'))) (bl.b :: (F1 ++ ((Fa ++ (Fn ++ Fb)) ++ F2))) := by
   refine ⟨bl, g1, rfl, g3, by simpa using g4, zx8 g5 n2 hdis, .inr ⟨_, rfl, ⟨_, ty, hnew, by simp; omega⟩, ?_⟩⟩
   rw [hgd, zsg _ _ _ hfit]
   have hi1 : i * bl.sz ≤ i * bl.sz + f := by omega
   refine zx7 h4 ?_ (by simp; omega) ?_ ?_
   ·refine zn6 _ _ _ (fun j hj => ?_) (fun d hd => hoth d (hbn d (by simp [hd]))) r1
    have : (xs.take i).length ≤ i := by simp; omega
    have := Nat.mul_le_mul_right bl.sz this
    exact hsame _ (by omega)
   ·rw [zfr]
    refine ⟨Fa, Fn ++ Fb, rfl, ?_, ?_⟩
    ·refine zn5 _ _ _ (fun j hj => hsame _ (by rw [ltake] at hj; omega)) (fun d hd => hoth d (hbn d (by simp [hd]))) s1
    ·rw [zfr]
     refine ⟨Fn, Fb, rfl, ?_, ?_⟩
     ·rw [ltake]
      refine n4 w' bl.b (i * bl.sz + f) (fun d hd => hoth d ?_) fun j u hu hj => ?_
      ·rintro rfl; exact hdis _ hd (by simp)
      ·rw [hspl, if_pos (by omega), ← hu]; congr 1; omega
     ·rw [ltake]
      refine zn5 _ _ _ (fun j hj => hsame _ (by rw [n1] at *; omega)) (fun d hd => hoth d (hbn d (by simp [hd]))) ?_
      rwa [Nat.add_assoc] at s3 ⊢
   ·refine zn6 _ _ _ (fun j hj => hsame _ ?_) (fun d hd => hoth d (hbn d (by simp [hd]))) r4
    have e : (i + 1) * bl.sz = i * bl.sz + bl.sz := by rw [Nat.add_mul, Nat.one_mul]
    rw [e]; omega
  refine ⟨rfl, w', _, ?_, hC.absorb hevo (by rcases hob with h | ⟨hs, h⟩ <;> rw [h] <;> simp) hnn hD ?_ gY hDY (by simp) hro⟩
  ·simp [Instr.storeAt, Instr.sureAddr, storeVar, sizeOf, typeInfo, hi, ← hT, ← h1, hrun]
   simp at hlen
   omega
  ·intro b hb
   rw [gφ]
   rcases List.mem_cons.1 hb with rfl | hb
   ·exact .inl (by simp)
   ·simp only [List.mem_append] at hb
    rcases hb with hb | (hb | hb | hb) | hb
    ·exact .inl (by simp [hb])
    ·exact .inl (by simp [hb])
    ·exact .inr (n3 b hb)
    ·exact .inl (by simp [hb])
    ·exact .inl (by simp [hb])
 ·cases h
theorem zqt (hC : Conc C st a w I β φ) {t : TypeId} {p q v : AV} {x y : Value} {c : Prop} {u : Ups} (hx : Rv w I β p x) (hy : Rv w I β q y) (h : aStoreO P st t p q = some (c, v, u)) (hc : c) :
 v = .g undef ∧ ∃ w' φ', (Instr.storeAt t x y).run P w = .ok () w' ∧ Conc C { st with ob := updL st.ob u } a w' I β φ' := by
 unfold aStoreO at h
 split at h
 ·rename_i T new hT hnew
  obtain ⟨d, i, z, hd, hi, hz, rfl⟩ := zce hT
  split at h
  ·rename_i n i' f
   split at h
   ·rename_i sz xs hob
    exact zqs hC hi rfl (.inl hob) hx (fun h2 => (zcy hnew hy h2).1) (fun h2 => (zcy hnew hy h2).2) h hc
   ·rename_i sz xs hs hob
    exact zqs hC hi rfl (.inr ⟨hs, hob⟩) hx (fun h2 => (zcy hnew hy h2).1) (fun h2 => (zcy hnew hy h2).2) h hc
   ·cases h
  ·cases h
 ·cases h
theorem zjv (hC : Conc C st a w I β φ) {t : TypeId} {x i v : AV} {p q : Value} {c : Prop} {u : Ups} (hx : Rv w I β x p) (hi : Rv w I β i q)
 (h : aIndexAddrO P st t x i = some (c, v, u)) (hc : c) : Good P C st a w (Instr.indexAt t p q) v u := by
 unfold aIndexAddrO at h
 split at h
 ·rename_i T m off len k n hT
  obtain ⟨d, i1, z, hd, hi1, hz, rfl⟩ := zce hT
  cases hi
  simp only at h
  split at h
  ·rename_i e hk
   cases d <;> simp only [tkOf, TK.slice.injEq, reduceCtorEq] at hk
   rw [hk] at hd
   split at h
   ·rename_i E hE
    obtain ⟨d', i', z', hd', hi', hz', rfl⟩ := zce hE
    obtain ⟨bl, hb, hle, hp⟩ := hx
    have key : ∀ sz, bl.sz = sz → (0 ≤ n ∧ n < len ∧ i'.size = sz) → Good P C st a w (Instr.indexAt t p (.int k n)) (.eptr m (off + n.toNat) 0) [] := by
     rintro sz hs ⟨h1, h2, h3⟩
     rcases hp with rfl | ⟨h0, a0, rfl⟩
     ·refine zby hC (y := .pointer (some ⟨bl.b, bl.o + ((off + n.toNat) * bl.sz + 0), none⟩)) ?_ ⟨bl, hb, rfl⟩
      simp [Instr.indexAt, asIntOf, run_underlying hd, h1, h2, sizeOf, typeInfo, hi', Addr.add_lit, h3, hs]
      rw [Nat.add_mul]; omega
     ·omega
    split at h
    ·rename_i sz xs hob
     cases h
     obtain ⟨bl', hb', h1, -⟩ := hC.ob _ _ hob
     rw [hb] at hb'; cases hb'
     exact key sz h1 hc
    ·rename_i sz xs hs hob
     cases h
     obtain ⟨bl', hb', h1, -⟩ := hC.ob _ _ hob
     rw [hb] at hb'; cases hb'
     exact key sz h1 hc
    ·cases h
   ·cases h
  ·cases h
 ·cases h
theorem zqu (hC : Conc C st a w I β φ) {t : TypeId} {T : TI} (hT : ti P t = some T) {n i f sz : Nat} {xs : List (List AV)} (hob : st.ob n = some (.own sz xs) ∨ ∃ hs, st.ob n = some (.ownh sz xs hs)) {v : AV} {x : Value} {c : Prop} {u : Ups} (hx : Rv w I β (.eptr n i f) x) (h : ldO T xs i f = some (c, v, u)) (hc : c) :
 u = [] ∧ ∃ y, (Instr.loadAt t x).run P w = .ok y w ∧ Rv w I β v y := by
 unfold ldO at h
 ·obtain ⟨d, inf, z, hd, hi, hz, rfl⟩ := zce hT
  ·obtain ⟨bl, hb, rfl⟩ := hx
   obtain ⟨⟨bl', hb', rfl, g3, g4, g5, g6⟩, -⟩ := ownhRO hC hob
   rw [hb] at hb'; cases hb'
   simp only at h
   have key : ∀ x, xs[i]? = some x → ∃ F, x.length = bl.sz ∧ RWc w bl.b (i * bl.sz) x F := by
    intro x hxi
    obtain ⟨hlt, rfl⟩ := List.getElem?_eq_some_iff.1 hxi
    rcases g6 with ⟨g6, -⟩ | ⟨F', -, -, g7⟩
    ·omega
    ·obtain ⟨F1, Fx, F2, -, -, h2, h3, -⟩ := (zqr hlt).1 g7
     exact ⟨Fx, h2, h3⟩
   rw [g3, Nat.zero_add]
   have hxi : ∀ c r, (xs.getD i []).drop f = c :: r → ∃ x, xs[i]? = some x ∧ x.drop f = c :: r := by
    intro c r e
    rw [List.getD_eq_getElem?_getD] at e
    cases hq : xs[i]? with
    | none => rw [hq] at e; simp at e
    | some x => rw [hq] at e; exact ⟨x, rfl, e⟩
   have cellv : ∀ (x : List AV) F (k : Nat), RWc w bl.b (i * bl.sz) x F → k ≤ x.length → ∃ G, RWc w bl.b (i * bl.sz + k) (x.drop k) G := by
    intro x F k hr hk
    rw [← List.take_append_drop k x, zfr] at hr
    obtain ⟨F1, F2, -, -, h2⟩ := hr
    rw [show (x.take k).length = k by simp; omega] at h2
    exact ⟨F2, h2⟩
   split at h
   ·rename_i hag
    cases h
    refine ⟨rfl, ?_⟩
    obtain ⟨hsz, hsc⟩ := hc
    have hh : ∃ vs : List Value, vs.length = inf.size ∧ Rv1s w I β (((xs.getD i []).drop f).take inf.size) vs ∧ ∀ (j : Nat) v, vs[j]? = some v → w.cell? ⟨bl.b, i * bl.sz + f + j, none⟩ = some v := by
     by_cases h0 : inf.size = 0
     ·rw [h0]; exact ⟨[], rfl, by simp [Rv1s], by simp⟩
     ·cases hq : xs[i]? with
      | none =>
       rw [List.getD_eq_getElem?_getD, hq] at hsz
       simp at hsz; omega
      | some x =>
       have e : xs.getD i [] = x := by rw [List.getD_eq_getElem?_getD, hq]; rfl
       rw [e] at hsz hsc ⊢
       obtain ⟨F, h1, h2⟩ := key x hq
       have hfl : f ≤ x.length := by simp at hsz; omega
       obtain ⟨G, h3⟩ := cellv x F f h2 hfl
       rw [← List.take_append_drop inf.size (x.drop f), zfr] at h3
       obtain ⟨G1, G2, -, h4, -⟩ := h3
       obtain ⟨h5, -⟩ := zr0 (I := I) (β := β) _ _ _ hsc h4
       obtain ⟨vs, k1, k2, k3⟩ := znq _ _ (zrz _ _ h5)
       exact ⟨vs, by rw [k1, List.length_take]; omega, k2, k3⟩
    obtain ⟨vs, hl, hvs, hcell⟩ := hh
    refine ⟨.agg ⟨vs⟩, ?_, ⟨vs, rfl, hvs⟩⟩
    have hload := run_loadCells_list (P := P) w ⟨bl.b, i * bl.sz + f, none⟩ vs (fun j v hv => by rw [Addr.add_lit]; exact hcell j v hv)
    rw [hl] at hload
    simp [Instr.loadAt, Instr.sureAddr, loadVar, zfm hd, hag, sizeOf, typeInfo, hi, hload]
   ·rename_i hag
    have hag' : aggOf d = false := by simpa using hag
    have one : ∀ c r, (xs.getD i []).drop f = c :: r → scal0 c = true → ∃ y, (Instr.loadAt t (.pointer (some ⟨bl.b, i * bl.sz + f, none⟩))).run P w = .ok y w ∧ Rv w I β c y := by
     intro c r e hs
     obtain ⟨x, hq, e⟩ := hxi c r e
     obtain ⟨F, h1, h2⟩ := key x hq
     have hfl : f ≤ x.length := by
      apply Classical.byContradiction
      intro hh
      rw [List.drop_of_length_le (by omega)] at e
      cases e
     obtain ⟨G, h3⟩ := cellv x F f h2 hfl
     rw [e, RWc] at h3
     obtain ⟨G1, G2, -, ⟨y, hy, hw⟩, -⟩ := h3
     obtain ⟨k1, -, -⟩ := ztq (I := I) (β := β) c y G1 hs hw
     exact ⟨y, by simp [Instr.loadAt, Instr.sureAddr, loadVar, zfm hd, hag', hy], zgk _ _ k1⟩
    split at h
    ·rename_i v0 r0 e; cases h; exact ⟨rfl, one _ _ e rfl⟩
    ·rename_i v0 r0 e; cases h; exact ⟨rfl, one _ _ e rfl⟩
    ·cases h
theorem zsh (hC : Conc C st a w I β φ) {t : TypeId} {av v : AV} {x : Value} {c : Prop} {u : Ups} (hx : Rv w I β av x) (h : aLoadO P st t av = some (c, v, u)) (hc : c) :
 u = [] ∧ ∃ y, (Instr.loadAt t x).run P w = .ok y w ∧ Rv w I β v y := by
 unfold aLoadO at h
 split at h
 ·rename_i T n i f hT
  split at h
  ·rename_i sz xs hob; exact zqu hC hT (.inl hob) hx h hc
  ·rename_i sz xs hs hob; exact zqu hC hT (.inr ⟨hs, hob⟩) hx h hc
  ·cases h
 ·cases h
theorem zwd (hC : Conc C st a w I β φ) {t : TypeId} {T : TI} (hT : ti P t = some T) (hag : T.agg = false) {n i f sz : Nat} {xs : List (List AV)} {hs : List (Nat × Nat × Value)} (hob : (st.ob n = some (.own sz xs) ∧ hs = []) ∨ st.ob n = some (.ownh sz xs hs)) {x : Value} (hx : Rv w I β (.eptr n i f) x)
 {s : Nat} {ys : List (List AV)} {r : List AV} (e : (xs.getD i []).drop f = .sl s ys :: r) :
 ∃ v, (Instr.loadAt t x).run P w = .ok v w ∧ Conc C { st with ob := upd st.ob n (some (.ownh sz xs ((i, f, v) :: hs))) } a w I β φ := by
 obtain ⟨d, inf, z, hd, hi, hz, rfl⟩ := zce hT
 simp only at hag
 have hro : ∃ bl, β n = some bl ∧ bl.sz = sz ∧ bl.o = 0 ∧ xs.length ≤ bl.cap ∧ (φ n).Nodup ∧ ((bl.cap = 0 ∧ φ n = []) ∨ ∃ F', φ n = bl.b :: F' ∧ OwnW w bl.b 0 (bl.cap * sz) ∧ RWe w bl.b sz 0 xs F' ∧ ∀ h ∈ hs, w.cell? ⟨bl.b, h.1 * sz + h.2.1, none⟩ = some h.2.2) := by
  rcases hob with ⟨h, rfl⟩ | h
  ·obtain ⟨bl, g1, g2, g3, g4, g5, g6⟩ := hC.ob _ _ h
   exact ⟨bl, g1, g2, g3, g4, g5, g6.imp id fun ⟨F', k1, k2, k3⟩ => ⟨F', k1, k2, k3, by simp⟩⟩
  ·exact hC.ob _ _ h
 have hY : ∀ b ∈ φ n, ¬ C.Y b := by
  rcases hob with ⟨h, -⟩ | h
  ·exact hC.wok _ _ h rfl
  ·exact hC.wok _ _ h rfl
 have hne : st.ob n ≠ none := by rcases hob with ⟨h, -⟩ | h <;> rw [h] <;> simp
 obtain ⟨bl, g1, g2, g3, g4, g5, g6⟩ := hro
 obtain ⟨bl', hb', rfl⟩ := hx
 rw [g1] at hb'; cases hb'
 subst g2
 obtain ⟨hlt, e⟩ : ∃ h : i < xs.length, xs[i].drop f = .sl s ys :: r := by
  rw [List.getD_eq_getElem?_getD] at e
  cases hq : xs[i]? with
  | none => rw [hq] at e; simp at e
  | some x =>
   obtain ⟨h1, h2⟩ := List.getElem?_eq_some_iff.1 hq
   rw [hq] at e
   exact ⟨h1, by rw [h2]; exact e⟩
 have hfl : f ≤ xs[i].length := by
  apply Classical.byContradiction
  intro hh
  rw [List.drop_of_length_le (by omega)] at e
  cases e
 rcases g6 with ⟨g6, -⟩ | ⟨F', k1, k2, k3, k4⟩
 ·omega
 obtain ⟨F1, Fx, F2, -, -, h2, h3, -⟩ := (zqr hlt).1 k3
 rw [← List.take_append_drop f xs[i], zfr] at h3
 obtain ⟨G1, G2, -, -, h4⟩ := h3
 rw [show (xs[i].take f).length = f by simp; omega, e, RWc] at h4
 obtain ⟨H1, H2, -, ⟨v, hv, -⟩, -⟩ := h4
 refine ⟨v, ?_, hC.write (w' := w) _ hne (by simp) hY (Evo.refl _ w) ⟨bl, g1, rfl, g3, g4, g5, .inr ⟨F', k1, k2, k3, ?_⟩⟩⟩
 ·rw [g3, Nat.zero_add]
  simp [Instr.loadAt, Instr.sureAddr, loadVar, zfm hd, hag, hv]
 ·intro h hh
  rcases List.mem_cons.1 hh with rfl | hh
  ·exact hv
  ·exact k4 h hh
theorem zwe {b : Nat} {F1 Fa Fo Fb F2 Fn : List Nat} (h : (b :: (F1 ++ ((Fa ++ (Fo ++ Fb)) ++ F2))).Nodup) (hn : Fn.Nodup) (hd : ∀ x ∈ Fn, x ∈ Fo ∨ x ∉ b :: (F1 ++ ((Fa ++ (Fo ++ Fb)) ++ F2))) : (b :: (F1 ++ ((Fa ++ (Fn ++ Fb)) ++ F2))).Nodup := by
 simp only [List.nodup_cons, List.nodup_append, List.mem_append, List.mem_cons, not_or] at h hd ⊢
 grind
def PStep (P : Program) (st : St) (f : FuncId) (actual : List AV) (v : AV) (u : Ups) : Prop :=
 ∃ (n sz : Nat) (xs : List (List AV)) (hs : List (Nat × Nat × Value)) (i f0 : Nat) (w0 : Value) (s : Nat) (ys ys' : List (List AV)) (rest : List AV) (r : AV),
  st.ob n = some (.ownh sz xs hs) ∧ (i, f0, w0) ∈ hs ∧ actual = .g w0 :: rest ∧ rest.all scal2 = true ∧ (∃ x, xs[i]? = some x ∧ x[f0]? = some (.sl s ys)) ∧ XCall P f (.arr 8 0 ys.length :: rest) [.own s ys] r [.own s ys'] [] ∧ ys'.length = ys.length ∧ scal r = true ∧
  v = r ∧ u = [(n, .ownh sz (xs.set i ((xs.getD i []).set f0 (.sl s ys'))) hs)]
theorem zsi (hC : Conc C st a w I β φ) {f : FuncId} {actual : List AV} {vs : List Value} {v : AV} {u : Ups} (hvs : Rv2s w I β actual vs) (h : PStep P st f actual v u) :
 Calls P f ⟨vs⟩ w fun e w' => ∃ y I' β' φ', e = .returned y ∧ Rv w' I' β' v y ∧ Conc C { st with ob := updL st.ob u } a w' I' β' φ' := by
 obtain ⟨n, sz, xs, hs, i, f0, w0, s, ys, ys', rest, r, hob, hmem, rfl, hrest, ⟨x, hxi, hxf⟩, hX, hyl, hsc, rfl, rfl⟩ := h
 obtain ⟨v0, vs', rfl, hv0, hvr⟩ := hvs
 cases hv0
 obtain ⟨bl, g1, g2, g3, g4, g5, g6⟩ := hC.ob _ _ hob
 have hY := hC.wok _ _ hob rfl
 subst g2
 obtain ⟨hlt, rfl⟩ := List.getElem?_eq_some_iff.1 hxi
 obtain ⟨hf0, hfe⟩ := List.getElem?_eq_some_iff.1 hxf
 rcases g6 with ⟨g6, -⟩ | ⟨F', k1, k2, k3, k4⟩
 ·omega
 obtain ⟨F1, Fx, F2, rfl, r1, r2, r3, r4⟩ := (zqr hlt).1 k3
 rw [zsf xs[i] f0 hf0, zfr] at r3
 obtain ⟨Fa, Fr, rfl, s1, s2⟩ := r3
 have ltake : (xs[i].take f0).length = f0 := by simp; omega
 rw [ltake, RWc, hfe] at s2
 obtain ⟨Fc, Fb, rfl, ⟨v1, hv1, hw1⟩, s3⟩ := s2
 have hcell := k4 _ hmem
 simp only at hcell
 rw [hv1] at hcell
 cases hcell
 rw [k1] at g5
 have hFcn : Fc.Nodup := by
  have := g5
  simp only [List.nodup_cons, List.nodup_append] at this
  exact this.2.2.1.1.2.1.1
 -- the callee's row
 obtain ⟨blc, hc1, hc2, hc3, hc4, hc5, hc6⟩ : ∃ blc : Bl, blc.sz = s ∧ blc.o = 0 ∧ ys.length ≤ blc.cap ∧ ((blc.cap = 0 ∧ Fc = []) ∨ ∃ F', Fc = blc.b :: F' ∧ OwnW w blc.b 0 (blc.cap * s) ∧ RWe w blc.b s 0 ys F') ∧
  (w0 = .slice (some ⟨blc.b, blc.o + 0 * blc.sz, none⟩) ys.length (blc.cap - 0) ∨ (0 = blc.cap ∧ ∃ a, w0 = .slice a 0 0)) ∧
  ∀ (w' : World) (G : List Nat), G.Nodup → ((blc.cap = 0 ∧ G = []) ∨ ∃ G', G = blc.b :: G' ∧ OwnW w' blc.b 0 (blc.cap * s) ∧ RWe w' blc.b s 0 ys' G') → ys'.length ≤ blc.cap → ∃ G2, G2.Nodup ∧ (∀ b ∈ G2, b ∈ G) ∧ RW w' (.sl s ys') w0 G2 := by
  rw [RW] at hw1
  obtain ⟨a0, cap, rfl, hle, ⟨rfl, rfl, rfl⟩ | ⟨b2, F', rfl, rfl, hw2, hw3⟩⟩ := hw1
  ·refine ⟨⟨0, 0, s, 0⟩, rfl, rfl, by simp, .inl ⟨rfl, rfl⟩, .inr ⟨rfl, a0, rfl⟩, ?_⟩
   intro w' G _ _ hl
   have hy : ys' = [] := List.length_eq_zero_iff.1 (by simpa using hyl)
   subst hy
   refine ⟨[], by simp, by simp, ?_⟩
   rw [RW]
   exact ⟨a0, 0, rfl, by simp, .inl ⟨rfl, rfl, rfl⟩⟩
  ·refine ⟨⟨b2, 0, s, cap⟩, rfl, rfl, hle, .inr ⟨F', rfl, hw2, hw3⟩, .inl (by simp), ?_⟩
   intro w' G hGn hG hl
   rcases hG with ⟨h1, rfl⟩ | ⟨G', rfl, h2, h3⟩
   ·have hy : ys' = [] := List.length_eq_zero_iff.1 (by simp at h1 hl; omega)
    subst hy
    simp only at h1
    refine ⟨[], by simp, by simp, ?_⟩
    rw [RW]
    exact ⟨_, cap, by rw [← hyl], by simp, .inl ⟨rfl, h1, rfl⟩⟩
   ·refine ⟨_, hGn, fun b hb => hb, ?_⟩
    rw [RW]
    exact ⟨_, cap, by rw [hyl], by rw [hyl]; exact hle, .inr ⟨b2, G', rfl, rfl, h2, h3⟩⟩
 obtain ⟨-, -, -, -, hcall⟩ := hX
 have hp8 : ∀ k o, postOb [OB.own s ys] [] k = some o → k = 8 ∧ o = .own s ys := by
  intro k o h
  unfold postOb at h
  split at h
  ·split at h
   ·cases h
   ·have := (List.getElem?_eq_some_iff.1 h).1
    have hk : k = 8 := by simp at this; omega
    subst hk
    cases h; exact ⟨rfl, rfl⟩
  ·simp at h
 let βc : Beta := fun k => if k = 8 then some blc else none
 let χ : Nat → List Nat := fun k => if k = 8 then Fc else []
 have hχm : ∀ k b, b ∈ χ k → k = 8 ∧ b ∈ Fc := by
  intro k b hb
  simp only [χ] at hb
  split at hb
  ·rename_i h; exact ⟨h, hb⟩
  ·simp at hb
 have hFcφ : ∀ b ∈ Fc, b ∈ φ n := fun b hb => by rw [k1]; simp [hb]
 have hc := hcall w I βc χ (w0 :: vs') hC.immLt ⟨w0, vs', rfl, ⟨blc, by simp [βc], by omega, hc5⟩, zk7 rest vs' hrest hvr⟩ (fun k hk => by
  have : k ≠ 8 := by rintro rfl; simp [postOb] at hk
  simp [βc, χ, this]) (fun k o ho => by
  obtain ⟨rfl, rfl⟩ := hp8 k o ho
  show RO w I βc 8 (.own s ys) (χ 8)
  simp only [χ, if_true]
  exact ⟨blc, by simp [βc], hc1, hc2, hc3, hFcn, hc4⟩) (fun k l hkl b hb hb' => by
  obtain ⟨rfl, -⟩ := hχm k b hb
  obtain ⟨rfl, -⟩ := hχm l b hb'
  exact hkl rfl) (fun k b hb => by
  obtain ⟨-, hb⟩ := hχm k b hb
  exact ⟨hC.nimm n b (hFcφ b hb), (hC.flt n b (hFcφ b hb)).1⟩)
 refine hc.mono ?_
 rintro e w' ⟨y, I', β', χ', rfl, hev, hII, hIn, hy, hβ, -, hpo, -, hχn⟩
 have hro8 := hpo 8 (.own s ys') (by simp [postOb])
 obtain ⟨bl8, e1, e2, e3, e4, e5, e6⟩ := hro8
 have : bl8 = blc := by
  have := hβ 8 blc (by simp [βc])
  rw [e1] at this; cases this; rfl
 subst this
 obtain ⟨G2, q1, q2, q3⟩ := hc6 w' (χ' 8) e5 e6 e4
 have hG : ∀ b ∈ G2, b ∈ Fc ∨ (w.heap.size ≤ b ∧ b < w'.heap.size) := by
  intro b hb
  obtain ⟨p1, p2, p3⟩ := hχn 8 b (q2 b hb)
  rcases p3 with ⟨m, hm⟩ | p3
  ·exact .inl (hχm m b hm).2
  ·exact .inr ⟨p3, p2⟩
 have hevn : Evo (· ∈ Fc) w w' := hev.mono fun b _ ⟨m, hb⟩ => (hχm m b hb).2
 have hold : ∀ b, b ∈ bl.b :: (F1 ++ ((Fa ++ (Fc ++ Fb)) ++ F2)) → b < w.heap.size := fun b hb => (hC.flt n b (by rw [k1]; exact hb)).1
 have hnd := zwe g5 q1 (fun b hb => by
  rcases hG b hb with h | h
  ·exact .inl h
  ·right; intro hh; have := hold b hh; omega)
 have hnotc : ∀ b, b ∈ bl.b :: (F1 ++ ((Fa ++ ([] ++ Fb)) ++ F2)) → b ∉ Fc := by
  intro b hb hb'
  have := g5
  simp only [List.nodup_cons, List.nodup_append, List.mem_append, List.mem_cons, List.nil_append, not_or] at this hb
  grind
 have hsame : ∀ b, b ∈ bl.b :: (F1 ++ ((Fa ++ ([] ++ Fb)) ++ F2)) → w'.heap[b]? = w.heap[b]? := by
  intro b hb
  refine hevn.blk b (hold b ?_) (hnotc b hb)
  simp only [List.mem_append, List.mem_cons, List.nil_append] at hb ⊢
  grind
 have hbb : w'.heap[bl.b]? = w.heap[bl.b]? := hsame _ (by simp)
 have hgd : xs.getD i [] = xs[i] := by simp [List.getD, hlt]
 have hro : RO w' I β n (.ownh bl.sz (xs.set i (xs[i].set f0 (.sl s ys'))) hs) (bl.b :: (F1 ++ ((Fa ++ (G2 ++ Fb)) ++ F2))) := by
  refine ⟨bl, g1, rfl, g3, by simpa using g4, hnd, .inr ⟨_, rfl, zh5 hbb k2, ?_, fun h hh => by rw [cell?_of_heap hbb]; exact k4 h hh⟩⟩
  refine zx7 hlt ?_ (by simpa using r2) ?_ ?_
  ·exact zgx _ hbb _ _ _ _ (fun d hd => hsame d (by simp [hd])) r1
  ·rw [List.set_eq_take_append_cons_drop, if_pos hf0, zfr, ltake]
   refine ⟨Fa, G2 ++ Fb, rfl, zj1 _ hbb _ _ _ (fun d hd => hsame d (by simp [hd])) s1, ?_⟩
   rw [RWc]
   exact ⟨G2, Fb, rfl, ⟨w0, by rw [cell?_of_heap hbb]; exact hv1, q3⟩, zj1 _ hbb _ _ _ (fun d hd => hsame d (by simp [hd])) s3⟩
  ·exact zgx _ hbb _ _ _ _ (fun d hd => hsame d (by simp [hd])) r4
 have hnew : ∀ b ∈ bl.b :: (F1 ++ ((Fa ++ (G2 ++ Fb)) ++ F2)), b ∈ φ n ∨ (w.heap.size ≤ b ∧ b < w'.heap.size) := by
  intro b hb
  rw [k1]
  simp only [List.mem_append, List.mem_cons] at hb ⊢
  rcases hb with hb | hb | (hb | hb | hb) | hb
  ·exact .inl (by simp [hb])
  ·exact .inl (by simp [hb])
  ·exact .inl (by simp [hb])
  ·rcases hG b hb with h | h
   ·exact .inl (by simp [h])
   ·exact .inr h
  ·exact .inl (by simp [hb])
  ·exact .inl (by simp [hb])
 refine ⟨y, I, β, upd φ n (bl.b :: (F1 ++ ((Fa ++ (G2 ++ Fb)) ++ F2))), rfl, zxn _ _ hsc hy, ?_⟩
 rw [hgd]
 have hdom : ∀ k, upd st.ob n (some (OB.ownh bl.sz (xs.set i (xs[i].set f0 (.sl s ys'))) hs)) k = none → k ≠ n ∧ st.ob k = none := by
  intro k hk
  by_cases h : k = n
  ·subst h; simp [zbj] at hk
  ·rw [zbg _ _ h] at hk; exact ⟨h, hk⟩
 have hm : ∀ k b, b ∈ upd φ n (bl.b :: (F1 ++ ((Fa ++ (G2 ++ Fb)) ++ F2))) k → (k = n ∧ (b ∈ φ n ∨ (w.heap.size ≤ b ∧ b < w'.heap.size))) ∨ (k ≠ n ∧ b ∈ φ k) := by
  intro k b hb
  by_cases h : k = n
  ·subst h; rw [zbj] at hb; exact .inl ⟨rfl, hnew b hb⟩
  ·rw [zbg _ _ h] at hb; exact .inr ⟨h, hb⟩
 show Conc C { st with ob := upd st.ob n _ } a w' I β _
 refine hC.move (· ∈ Fc) hevn (fun b hb => ⟨n, hFcφ b hb, hY b (hFcφ b hb)⟩) (fun _ hb => hb) (fun _ hb => .inl hb) (fun _ _ hb => hb) ?_ (fun k hk => hC.dom k (hdom k hk).2) ?_ ?_ ?_ ?_ ?_ ?_
 ·intro k o ho
  by_cases h : k = n
  ·subst h
   simp only [zbj, Option.some.injEq] at ho ⊢
   subst ho
   exact .inr hro
  ·rw [zbg _ _ h] at ho
   exact .inl ⟨ho, zbg _ _ h, fun b hb hb' => hC.sep k n h b hb (hFcφ b hb')⟩
 ·intro k hk
  rw [zbg _ _ (hdom k hk).1]; exact hC.fdom k (hdom k hk).2
 ·intro k l hkl b hb hb'
  rcases hm k b hb with ⟨rfl, h1⟩ | ⟨h1, h2⟩
  ·rcases hm l b hb' with ⟨rfl, -⟩ | ⟨h3, h4⟩
   ·exact hkl rfl
   ·rcases h1 with h1 | h1
    ·exact hC.sep k l hkl b h1 h4
    ·have := (hC.flt l b h4).1; omega
  ·rcases hm l b hb' with ⟨rfl, h3⟩ | ⟨h3, h4⟩
   ·rcases h3 with h3 | h3
    ·exact hC.sep k l hkl b h2 h3
    ·have := (hC.flt k b h2).1; omega
   ·exact hC.sep k l hkl b h2 h4
 ·intro k b hb hi
  rcases hm k b hb with ⟨rfl, h1 | h1⟩ | ⟨-, h2⟩
  ·exact hC.nimm k b h1 hi
  ·have := hC.immLt b hi; omega
  ·exact hC.nimm k b h2 hi
 ·intro k b hb
  rcases hm k b hb with ⟨rfl, h1 | h1⟩ | ⟨-, h2⟩
  ·exact ⟨Nat.lt_of_lt_of_le (hC.flt k b h1).1 hev.size, (hC.flt k b h1).2⟩
  ·exact ⟨h1.2, .inr (.inr (Nat.le_trans hC.evo.size h1.1))⟩
  ·exact ⟨Nat.lt_of_lt_of_le (hC.flt k b h2).1 hev.size, (hC.flt k b h2).2⟩
 ·intro k o ho hwr b hb
  rcases hm k b hb with ⟨rfl, h1 | h1⟩ | ⟨h1, h2⟩
  ·exact hY b h1
  ·intro hy
   have := hC.ylt b hy
   have := hC.evo.size
   omega
  ·rw [zbg _ _ h1] at ho; exact hC.wok k o ho hwr b h2
 ·intro k s2 xs2 ho b hb
  rcases hm k b hb with ⟨rfl, -⟩ | ⟨h1, h2⟩
  ·simp [zbj] at ho
  ·rw [zbg _ _ h1] at ho; exact hC.fnew k s2 xs2 ho b h2
theorem zsj (hC : Conc C st a w I β φ) {t : TypeId} {av : AV} {x : Value} {n : Nat} {g : Value → OB} (hx : Rv w I β av x) (h : nestL P st t av = some (n, g)) :
 ∃ v, (Instr.loadAt t x).run P w = .ok v w ∧ Conc C { st with ob := upd st.ob n (some (g v)) } a w I β φ := by
 unfold nestL at h
 split at h
 ·rename_i n' i f
  have key : ∀ sz xs hs, (st.ob n' = some (.own sz xs) ∧ hs = []) ∨ st.ob n' = some (.ownh sz xs hs) → nestC P t n' i f sz xs hs = some (n, g) → ∃ v, (Instr.loadAt t x).run P w = .ok v w ∧ Conc C { st with ob := upd st.ob n (some (g v)) } a w I β φ := by
   intro sz xs hs hob h
   unfold nestC at h
   split at h
   ·rename_i T hT
    split at h
    ·cases h
    ·rename_i hag
     split at h
     ·rename_i s ys r e
      cases h
      exact zwd hC hT (by simpa using hag) hob hx e
     ·cases h
   ·cases h
  split at h
  ·rename_i sz xs hob; exact key sz xs [] (.inl ⟨hob, rfl⟩) h
  ·rename_i sz xs hs hob; exact key sz xs hs (.inr hob) h
  ·cases h
 ·cases h
end
end Go.Proofs.Ytmheohnbkaoipaa.Vs
end
section
open Go
namespace Go.Proofs.Ytmheohnbkaoipaa.Vs
set_option linter.all false
set_option linter.unusedSimpArgs false
set_option linter.unusedVariables false
def elO (st : St) (x : AV) : Option (Nat × Nat × List AV × List AV) :=
 match x with
 | .arr m 0 1 => match st.ob m with
  | some (.win sx [y]) => match swl st y with
   | some y' => some (m, sx, y, y')
   | none => none
  | _ => none
 | _ => none
theorem elO_spec {st : St} {x : AV} {m sx : Nat} {y y' : List AV} (h : elO st x = some (m, sx, y, y')) : x = .arr m 0 1 ∧ st.ob m = some (.win sx [y]) ∧ swl st y = some y' := by
 unfold elO at h
 split at h
 ·split at h
  ·split at h
   ·cases h; exact ⟨rfl, by assumption, by assumption⟩
   ·cases h
  ·cases h
 ·cases h
def aAppendO (P : Program) (st : St) (nm : Nat) (ts : List TypeId) (s x : AV) : ARes :=
 match ts with
 | [t, u] => match ti P t with
  | some T => match T.kind with
   | .slice e => match ti P e with
    | some E => match elO st x with
     | some (m, sx, y, y') => match s with
      | .arr n 0 len => match st.ob n with
       | some (.own sz xs) => if sz = E.size ∧ sx = E.size then some ((st.ob nm).isNone = true ∧ t = u ∧ 0 < E.size ∧ E.zero.length = E.size ∧ (n :: m :: arrN y).Nodup ∧ len = xs.length ∧ (len + 1) * E.bytes ≤ 2 ^ 47 ∧ len + 1 < 2 ^ 62,
        .arr nm 0 (len + 1), (n :: m :: arrN y).map (fun d => (d, OB.dead)) ++ [(nm, .own E.size (xs ++ [y']))]) else none
       | _ => none
      | _ => none
     | none => none
    | none => none
   | _ => none
  | none => none
 | _ => none
theorem zx9 {w w' : World} {b b' : Nat} : ∀ (cs : List AV) (o : Nat) (F : List Nat), (∀ j, j < cs.length → w'.cell? ⟨b', o + j, none⟩ = w.cell? ⟨b, o + j, none⟩) → (∀ c ∈ F, w'.heap[c]? = w.heap[c]?) → RWc w b o cs F → RWc w' b' o cs F
 | [], o, F, _, _, h => by simpa [RWc] using h
 | c :: cs, o, F, hc, hF, h => by
  rw [RWc] at h ⊢
  obtain ⟨F1, F2, rfl, ⟨v, h1, h2⟩, h3⟩ := h
  refine ⟨F1, F2, rfl, ⟨v, ?_, zks _ _ F1 (fun d hd => hF d (by simp [hd])) h2⟩, zx9 cs (o + 1) F2 (fun j hj => ?_) (fun d hd => hF d (by simp [hd])) h3⟩
  ·have := hc 0 (by simp); rw [Nat.add_zero] at this; rw [this]; exact h1
  ·have := hc (j + 1) (by simpa using hj); rwa [show o + (j + 1) = o + 1 + j by omega] at this
theorem zza {w w' : World} {b b' sz : Nat} : ∀ (xs : List (List AV)) (o : Nat) (F : List Nat), (∀ j, j < xs.length * sz → w'.cell? ⟨b', o + j, none⟩ = w.cell? ⟨b, o + j, none⟩) → (∀ c ∈ F, w'.heap[c]? = w.heap[c]?) → RWe w b sz o xs F → RWe w' b' sz o xs F
 | [], o, F, _, _, h => by simpa [RWe] using h
 | x :: xs, o, F, hc, hF, h => by
  rw [RWe] at h ⊢
  obtain ⟨F1, F2, rfl, h0, h1, h2⟩ := h
  refine ⟨F1, F2, rfl, h0, zx9 x o F1 (fun j hj => hc j ?_) (fun d hd => hF d (by simp [hd])) h1, zza xs (o + sz) F2 (fun j hj => ?_) (fun d hd => hF d (by simp [hd])) h2⟩
  ·rw [List.length_cons, Nat.add_mul]; omega
  ·have := hc (sz + j) (by rw [List.length_cons, Nat.add_mul]; omega); rwa [show o + (sz + j) = o + sz + j by omega] at this
theorem zt2 {w : World} {b : Nat} : ∀ (cs : List AV) (o : Nat) (F : List Nat), RWc w b o cs F → ∃ os : List Value, os.length = cs.length ∧ ∀ (j : Nat) v, os[j]? = some v → w.cell? ⟨b, o + j, none⟩ = some v
 | [], o, F, _ => ⟨[], rfl, by simp⟩
 | c :: cs, o, F, h => by
  rw [RWc] at h
  obtain ⟨F1, F2, rfl, ⟨v, h1, h2⟩, h3⟩ := h
  obtain ⟨os, g1, g2⟩ := zt2 cs (o + 1) F2 h3
  refine ⟨v :: os, by simp [g1], fun j u hu => ?_⟩
  cases j with
  | zero => simp at hu; subst hu; exact h1
  | succ j => have := g2 j u (by simpa using hu); rwa [show o + (j + 1) = o + 1 + j by omega]
theorem zt3 {w : World} {b sz : Nat} : ∀ (xs : List (List AV)) (o : Nat) (F : List Nat), RWe w b sz o xs F → ∃ os : List Value, os.length = xs.length * sz ∧ ∀ (j : Nat) v, os[j]? = some v → w.cell? ⟨b, o + j, none⟩ = some v
 | [], o, F, _ => ⟨[], by simp, by simp⟩
 | x :: xs, o, F, h => by
  rw [RWe] at h
  obtain ⟨F1, F2, rfl, h0, h1, h2⟩ := h
  obtain ⟨os, g1, g2⟩ := zt2 x o F1 h1
  obtain ⟨qs, k1, k2⟩ := zt3 xs (o + sz) F2 h2
  refine ⟨os ++ qs, by rw [List.length_append, g1, k1, h0, List.length_cons, Nat.add_mul]; omega, fun j u hu => ?_⟩
  by_cases hj : j < os.length
  ·rw [List.getElem?_append_left hj] at hu; exact g2 j u hu
  ·rw [List.getElem?_append_right (by omega)] at hu
   have := k2 _ u hu
   rwa [show o + sz + (j - os.length) = o + j by omega] at this
section
variable {P : Program} {C : Cx} {st : St} {a : Act} {w : World} {I : Nat → Prop} {β : Beta} {φ : Nat → List Nat}
theorem Conc.renameG (hC : Conc C st a w I β φ) {n nm : Nat} {o o' : OB} (hob : st.ob n = some o) (hwr : o.wr = true) (hof : ∀ sz xs, o' ≠ .flat sz xs) (hn : st.ob nm = none) {bl : Bl} (hbl : β n = some bl)
 (hro : RO w I (upd β nm (some bl)) nm o' (φ n)) :
 Conc C { st with ob := upd (upd st.ob n (some .dead)) nm (some o') } a w I (upd β nm (some bl)) (upd (upd φ n []) nm (φ n)) := by
 have hne : n ≠ nm := by rintro rfl; rw [hob] at hn; cases hn
 have hβn : β nm = none := hC.dom nm hn
 have hφ : ∀ m b, b ∈ upd (upd φ n []) nm (φ n) m → (m = nm ∧ b ∈ φ n) ∨ (m ≠ nm ∧ m ≠ n ∧ b ∈ φ m) := by
  intro m b hb
  by_cases h1 : m = nm
  ·subst h1; rw [zbj] at hb; exact .inl ⟨rfl, hb⟩
  ·rw [zbg _ _ h1] at hb
   by_cases h2 : m = n
   ·subst h2; simp [zbj] at hb
   ·rw [zbg _ _ h2] at hb; exact .inr ⟨h1, h2, hb⟩
 have hdom : ∀ m, upd (upd st.ob n (some OB.dead)) nm (some o') m = none → m ≠ nm ∧ m ≠ n ∧ st.ob m = none := by
  intro m ho
  by_cases h1 : m = nm
  ·subst h1; simp [zbj] at ho
  ·rw [zbg _ _ h1] at ho
   by_cases h2 : m = n
   ·subst h2; simp [zbj] at ho
   ·rw [zbg _ _ h2] at ho; exact ⟨h1, h2, ho⟩
 refine hC.move (fun _ => False) (Evo.refl _ w) (fun b hb => hb.elim) (fun _ hb => hb) (fun _ hb => .inl hb) ?_ ?_ ?_ ?_ ?_ ?_ ?_ ?_ ?_
 ·intro m bl' hb
  rw [zbg]
  ·exact hb
  ·rintro rfl; rw [hβn] at hb; cases hb
 ·intro m p ho
  by_cases h1 : m = nm
  ·subst h1
   simp only [zbj, Option.some.injEq] at ho ⊢
   subst ho
   exact .inr hro
  ·rw [zbg _ _ h1] at ho
   by_cases h2 : m = n
   ·subst h2
    simp only [zbj, Option.some.injEq] at ho
    subst ho
    exact .inr (by rw [zbg _ _ h1, zbj]; rfl)
   ·rw [zbg _ _ h2] at ho
    exact .inl ⟨ho, by rw [zbg _ _ h1, zbg _ _ h2], fun b hb hb' => hb'⟩
 ·intro m ho
  obtain ⟨h1, h2, h3⟩ := hdom m ho
  rw [zbg _ _ h1]; exact hC.dom m h3
 ·intro m ho
  obtain ⟨h1, h2, h3⟩ := hdom m ho
  rw [zbg _ _ h1, zbg _ _ h2]; exact hC.fdom m h3
 ·intro m k hmk b hb hb'
  rcases hφ m b hb with ⟨rfl, h1⟩ | ⟨h1, h2, h3⟩
  ·rcases hφ k b hb' with ⟨rfl, -⟩ | ⟨-, h5, h6⟩
   ·exact hmk rfl
   ·exact hC.sep n k (Ne.symm h5) b h1 h6
  ·rcases hφ k b hb' with ⟨rfl, h4⟩ | ⟨-, -, h6⟩
   ·exact hC.sep m n h2 b h3 h4
   ·exact hC.sep m k hmk b h3 h6
 ·intro m b hb
  rcases hφ m b hb with ⟨-, h1⟩ | ⟨-, -, h3⟩
  ·exact hC.nimm n b h1
  ·exact hC.nimm m b h3
 ·intro m b hb
  rcases hφ m b hb with ⟨-, h1⟩ | ⟨-, -, h3⟩
  ·exact hC.flt n b h1
  ·exact hC.flt m b h3
 ·intro m cs ho hwr' b hb
  rcases hφ m b hb with ⟨rfl, h1⟩ | ⟨h1, h2, h3⟩
  ·exact hC.wok n _ hob hwr b h1
  ·rw [zbg _ _ h1, zbg _ _ h2] at ho
   exact hC.wok m cs ho hwr' b h3
 ·intro m s ys ho b hb
  rcases hφ m b hb with ⟨rfl, h1⟩ | ⟨h1, h2, h3⟩
  ·simp only [zbj, Option.some.injEq] at ho; exact (hof _ _ ho).elim
  ·rw [zbg _ _ h1, zbg _ _ h2] at ho
   exact hC.fnew m _ _ ho b h3
theorem zm1 {ob : Nat → Option OB} (D : List Nat) (nm : Nat) (o o' : OB) : updL (upd ob nm (some o)) (D.map (fun d => (d, OB.dead)) ++ [(nm, o')]) = updL ob (D.map (fun d => (d, OB.dead)) ++ [(nm, o')]) := by
 funext k
 rw [zdd, zdd, zci, zj6, zci, zj6]
 by_cases h : k = nm
 ·subst h; simp [zbj]
 ·rw [zbg _ _ h, zbg _ _ h, zhw, zhw]
  split
  ·rfl
  ·rw [zbg _ _ h]
theorem growO (hC : Conc C st a w I β φ) {nm : Nat} (hn : st.ob nm = none) {e : TypeId} {sz cap : Nat} (arr : Array Value) {D : List Nat} {zs : List (List AV)} {F : List Nat} (hD : ∀ d ∈ D, st.ob d ≠ none) (hDY : ∀ d ∈ D, ∀ b ∈ φ d, ¬ C.Y b)
 (hFD : ∀ b ∈ F, ∃ d ∈ D, b ∈ φ d) (hFn : F.Nodup) (hcap : zs.length ≤ cap) (hsz : cap * sz ≤ arr.size)
 (hR : ∀ w' : World, (∀ d ∈ F, w'.heap[d]? = w.heap[d]?) → w'.heap[w.heap.size]? = some (.cells arr e (0, 0)) → RWe w' w.heap.size sz 0 zs F) :
 ∃ β' φ', Conc C { st with ob := updL st.ob (D.map (fun d => (d, OB.dead)) ++ [(nm, .own sz zs)]) } a (w.drew.alloc (.cells arr e)) I β' φ' ∧ β' nm = some ⟨w.heap.size, 0, sz, cap⟩ := by
 have hC1 := hC.drew.new hn (.cells arr e) (.win sz []) ⟨w.heap.size, 0, sz, cap⟩ (fun I' hI => ⟨_, zbj _ _ _, rfl, rfl, by simp, .inr ⟨rfl, ⟨arr, e, zcx _ _, by simpa using hsz⟩, trivial⟩⟩)
 have hnD : nm ∉ D := fun h => hD nm h hn
 have hlt : ∀ b ∈ F, b < w.heap.size := fun b hb => by
  obtain ⟨d, -, h⟩ := hFD b hb
  exact (hC.flt d b h).1
 have hds : w.drew.heap.size = w.heap.size := rfl
 have hφD : ∀ d ∈ D, upd φ nm [w.drew.heap.size] d = φ d := fun d hd => zbg _ _ (by rintro rfl; exact hnD hd)
 have hC2 := hC1.absorb (w' := w.drew.alloc (.cells arr e)) (n := nm) (D := D) (o' := .own sz zs) (F := w.heap.size :: F) (Evo.refl _ _) (by simp [zbj]) hnD
  (fun d hd => by
   show upd st.ob nm _ d ≠ none
   rw [zbg _ _ (by rintro rfl; exact hnD hd)]; exact hD d hd)
  (fun b hb => by
   rcases List.mem_cons.1 hb with rfl | hb
   ·left; rw [zbj]; simp [hds]
   ·obtain ⟨d, h1, h2⟩ := hFD b hb
    exact .inr ⟨d, h1, by rw [hφD d h1]; exact h2⟩)
  (fun b hb hY => by
   rw [zbj] at hb
   have h1 := hC.ylt b hY
   have h2 := hC.evo.size
   simp [hds] at hb
   omega)
  (fun d hd b hb => by rw [hφD d hd] at hb; exact hDY d hd b hb) (by intro s xs h; cases h)
  (by
   refine ⟨_, zbj _ _ _, rfl, rfl, hcap, List.nodup_cons.2 ⟨fun h => absurd (hlt _ h) (Nat.lt_irrefl _), hFn⟩, .inr ⟨F, rfl, ⟨arr, e, zcx _ _, by simpa using hsz⟩, ?_⟩⟩
   refine hR _ (fun d hd => ?_) (zcx _ _)
   exact zdk _ _ (hlt d hd))
 have hobe := zm1 (ob := st.ob) D nm (.win sz []) (.own sz zs)
 simp only [hobe] at hC2
 exact ⟨_, _, hC2, zbj _ _ _⟩
theorem zn7 (hC : Conc C st a w I β φ) {nm : Nat} {ts : List TypeId} {ty : TypeId} {s x v : AV} {p y : Value} {c : Prop} {u : Ups} (hs : Rv w I β s p) (hx : Rv w I β x y)
 (h : aAppendO P st nm ts s x = some (c, v, u)) (hc : c) : Good P C st a w (Builtin.append_ ts.toArray ty #[p, y]) v u := by
 unfold aAppendO at h
 split at h
 ·rename_i t t'
  split at h
  ·rename_i T hT
   obtain ⟨d, i, z, hd, hi, hz, rfl⟩ := zce hT
   simp only at h
   split at h
   ·rename_i e hk
    cases d <;> simp only [tkOf, TK.slice.injEq, reduceCtorEq] at hk
    rw [hk] at hd
    split at h
    ·rename_i E hE
     obtain ⟨d', i', z', hd', hi', hz', rfl⟩ := zce hE
     simp only at h
     split at h
     ·rename_i m sx ye y' hel0
      obtain ⟨rfl, hobm, hsw⟩ := elO_spec hel0
      ·skip
       ·skip
        split at h
        ·rename_i n len
         split at h
         ·rename_i sz xs hob
          split at h
          ·rename_i hsz
           cases h
           obtain ⟨hn, rfl, hpos, hzs, hnd, rfl, h47, h62⟩ := hc
           obtain ⟨hsz1, hsz2⟩ := hsz
           have hn' : st.ob nm = none := by simpa using hn
           have hzs' : z'.cells.size = i'.size := by simpa using hzs
           replace hsz1 : sz = i'.size := hsz1
           replace hsz2 : sx = i'.size := hsz2
           subst hsz1
           subst hsz2
           obtain ⟨hnm, hnd2⟩ := List.nodup_cons.1 hnd
           obtain ⟨hmy, hndy⟩ := List.nodup_cons.1 hnd2
           have hnem : n ≠ m := fun e => hnm (by simp [e])
           have hny : n ∉ arrN ye := fun h => hnm (by simp [h])
           -- the element
           obtain ⟨blm, hbm, hlem, hxm⟩ := hx
           obtain ⟨blm', hbm', m1, m2, m3, m4⟩ := hC.ob _ _ hobm
           rw [hbm] at hbm'; cases hbm'
           rcases m4 with ⟨m4, -⟩ | ⟨hφm, -, hrm⟩
           ·omega
           rcases hxm with rfl | ⟨hxm, -⟩
           case inr => omega
           rw [Nat.zero_mul, Nat.add_zero, Nat.sub_zero, m2]
           obtain ⟨vs, hl, hcell, hone, hel⟩ := zfx _ _ hrm
           have hl1 : vs.length = i'.size := by rw [hl]; simp
           obtain ⟨hyl, hye⟩ := hel 0 ye rfl
           obtain ⟨hy'l, Fy, hFyn, hFy, hRy⟩ := swls hC ye y' hsw hndy vs fun j c hc => by
            obtain ⟨v, h1, h2⟩ := hye j c hc
            exact ⟨v, by simpa using h1, h2.1, h2.2⟩
           have hcell' : ∀ (j : Nat) v, vs[j]? = some v → w.cell? ((⟨blm.b, 0, none⟩ : Addr).add j) = some v := fun j v hv => by rw [Addr.add_lit]; exact hcell j v hv
           -- the row
           obtain ⟨bl, hb, hle, hp⟩ := hs
           obtain ⟨bl', hb', h1, h2, h3, hnod, h4⟩ := hC.ob _ _ hob
           rw [hb] at hb'; cases hb'
           rw [Nat.zero_mul, Nat.add_zero, Nat.sub_zero, h2] at hp
           have hnames : ∀ k ∈ arrN ye, st.ob k ≠ none ∧ ∀ b ∈ φ k, ¬ C.Y b := fun k hk => by
            obtain ⟨s', ys', hh⟩ := zgn ye y' hsw k hk
            refine ⟨?_, noY_of hC hh⟩
            rcases hh with hh | ⟨hh, -⟩ | ⟨hh, -⟩ <;> rw [hh] <;> simp
           have hmY : ∀ b ∈ φ m, ¬ C.Y b := fun b hb => hC.wok m _ hobm rfl b hb
           have hnY : ∀ b ∈ φ n, ¬ C.Y b := fun b hb => hC.wok n _ hob rfl b hb
           have hFyd : ∀ b ∈ Fy, b ∉ φ n := fun b hb hb2 => by
            obtain ⟨k, hk, hbk⟩ := hFy b hb
            exact hC.sep n k (by rintro rfl; exact hny hk) b hb2 hbk
           have hylen : y'.length = i'.size := by rw [hy'l, hyl]
           by_cases hroom : xs.length + 1 ≤ bl.cap
           ·rcases hp with rfl | ⟨h0, a0, rfl⟩
            case inr => omega
            rcases h4 with ⟨h4, -⟩ | ⟨F1, hφ, ⟨arr, ety, hh, hsize⟩, hrc⟩
            ·omega
            have hbig : xs.length * i'.size + 1 * i'.size ≤ bl.cap * i'.size := by rw [← Nat.add_mul]; exact Nat.mul_le_mul_right _ hroom
            have hrun := zdn (P := P) w t ty e ety i' hd hi' bl.b xs.length bl.cap arr hh ⟨blm.b, 0, none⟩ 1 blm.cap vs (by rw [hl1]; omega) hcell' hone hroom (by rw [hl1]; omega)
            have hnew := setRow_heap w bl.b arr (arr.toList.take (xs.length * i'.size) ++ vs ++ arr.toList.drop (xs.length * i'.size + vs.length)).toArray ety (0, 0) hh
            generalize hW : w.setRow bl.b (arr.toList.take (xs.length * i'.size) ++ vs ++ arr.toList.drop (xs.length * i'.size + vs.length)).toArray = W at hrun hnew
            have hevo : Evo (· ∈ φ n) w W := by rw [← hW]; exact zdo w bl.b _ _ (by rw [hφ]; simp)
            have hspl : ∀ k, W.cell? ⟨bl.b, k, none⟩ = if xs.length * i'.size ≤ k ∧ k < xs.length * i'.size + vs.length then vs[k - xs.length * i'.size]? else arr[k]? := by
             intro k
             have hfit2 : xs.length * i'.size + vs.length ≤ arr.toList.length := by rw [Array.length_toList (xs := arr), hl1]; omega
             rw [zc1 hnew, List.getElem?_toArray, zdw _ _ _ hfit2]
             simp
            have hCr := hC.renameG (o' := .own i'.size xs) hob rfl (by intro s xs h; cases h) hn' hb ⟨bl, zbj _ _ _, h1, h2, h3, hnod, .inr ⟨F1, hφ, ⟨arr, ety, hh, hsize⟩, hrc⟩⟩
            have hnen : n ≠ nm := by rintro rfl; rw [hob] at hn'; cases hn'
            have hkn : ∀ k ∈ m :: arrN ye, k ≠ n ∧ k ≠ nm ∧ st.ob k ≠ none ∧ ∀ b ∈ φ k, ¬ C.Y b := by
             intro k hk
             have hk2 : st.ob k ≠ none ∧ ∀ b ∈ φ k, ¬ C.Y b := by
              rcases List.mem_cons.1 hk with rfl | hk
              ·exact ⟨by rw [hobm]; simp, hmY⟩
              ·exact hnames k hk
             exact ⟨fun e => hnm (e ▸ hk), fun e => hk2.1 (e ▸ hn'), hk2⟩
            have hφk : ∀ k ∈ m :: arrN ye, upd (upd φ n []) nm (φ n) k = φ k := fun k hk => by
             rw [zbg _ _ (hkn k hk).2.1, zbg _ _ (hkn k hk).1]
            have hoth : ∀ b, b ∉ φ n → b < w.heap.size → W.heap[b]? = w.heap[b]? := fun b hb hlt => hevo.blk b hlt hb
            have hFyh : ∀ d ∈ Fy, W.heap[d]? = w.heap[d]? := fun d hd => by
             obtain ⟨k, hk, hbk⟩ := hFy d hd
             exact hoth d (hFyd d hd) (hC.flt k d hbk).1
            have hbF1 : bl.b ∉ F1 ∧ F1.Nodup := by rw [hφ] at hnod; exact List.nodup_cons.1 hnod
            have hF1h : ∀ d ∈ F1, W.heap[d]? = w.heap[d]? := fun d hd => by
             rw [← hW]
             exact setRow_other w bl.b d _ (by rintro rfl; exact hbF1.1 hd)
            have hCa := hCr.absorb (w' := W) (n := nm) (D := m :: arrN ye) (o' := .own i'.size (xs ++ [y'])) (F := bl.b :: (F1 ++ Fy)) (by rw [zbj]; exact hevo) (by simp [zbj]) (fun h => (hkn nm h).2.1 rfl)
             (fun k hk => by
              show upd (upd st.ob n _) nm _ k ≠ none
              rw [zbg _ _ (hkn k hk).2.1, zbg _ _ (hkn k hk).1]; exact (hkn k hk).2.2.1)
             (fun b hb => by
              rcases List.mem_cons.1 hb with rfl | hb
              ·left; rw [zbj, hφ]; simp
              ·rcases List.mem_append.1 hb with hb | hb
               ·left; rw [zbj, hφ]; simp [hb]
               ·obtain ⟨k, hk, hbk⟩ := hFy b hb
                exact .inr ⟨k, List.mem_cons_of_mem _ hk, by rw [hφk k (List.mem_cons_of_mem _ hk)]; exact hbk⟩)
             (fun b hb => by rw [zbj] at hb; exact hnY b hb)
             (fun k hk b hb => by rw [hφk k hk] at hb; exact (hkn k hk).2.2.2 b hb) (by intro s xs h; cases h)
             (by
              refine ⟨bl, zbj _ _ _, h1, h2, by simp; omega, ?_, .inr ⟨F1 ++ Fy, rfl, ⟨_, ety, hnew, by simp; omega⟩, ?_⟩⟩
              ·rw [List.nodup_cons, List.mem_append, List.nodup_append]
               refine ⟨?_, hbF1.2, hFyn, fun b1 hb1 b2 hb2 e => ?_⟩
               ·rintro (h | h)
                ·exact hbF1.1 h
                ·exact hFyd _ h (by rw [hφ]; simp)
               ·subst e; exact hFyd _ hb2 (by rw [hφ]; simp [hb1])
              ·rw [zji]
               refine ⟨F1, Fy, rfl, zn6 xs 0 F1 (fun j hj => ?_) hF1h hrc, ?_⟩
               ·rw [hspl, if_neg (by omega), zc1 hh]
               ·rw [RWe]
                refine ⟨Fy, [], by simp, hylen, hRy W bl.b _ hFyh (fun j v hv hj => ?_), by rw [RWe]⟩
                have hvl := (List.getElem?_eq_some_iff.1 hv).1
                rw [hspl, if_pos (by omega), ← hv]
                congr 1; omega)
            have hobe : updL (upd (upd st.ob n (some .dead)) nm (some (.own i'.size xs))) ((m :: arrN ye).map (fun d => (d, OB.dead)) ++ [(nm, .own i'.size (xs ++ [y']))]) = updL st.ob ((n :: m :: arrN ye).map (fun d => (d, OB.dead)) ++ [(nm, .own i'.size (xs ++ [y']))]) := by
             rw [zm1]
             conv => rhs; rw [List.map_cons, List.cons_append, zci]
            simp only [hobe] at hCa
            exact ⟨_, W, I, _, _, hrun, ⟨bl, zbj _ _ _, by omega, .inl (by simp [h2])⟩, hCa⟩
           · -- a new block
            have hold : ∃ (F1 : List Nat) (os : List Value), RWe w bl.b i'.size 0 xs F1 ∧ F1.Nodup ∧ (∀ b ∈ F1, b ∈ φ n) ∧ os.length = xs.length * i'.size ∧ ∀ (j : Nat) v, os[j]? = some v → w.cell? ⟨bl.b, 0 + j, none⟩ = some v := by
             rcases h4 with ⟨h4, -⟩ | ⟨F1, hφ, -, hrc⟩
             ·have hx0 : xs = [] := List.length_eq_zero_iff.1 (by omega)
              subst hx0
              exact ⟨[], [], by rw [RWe], by simp, by simp, by simp, by simp⟩
             ·obtain ⟨os, g1, g2⟩ := zt3 _ _ _ hrc
              rw [hφ] at hnod
              exact ⟨F1, os, hrc, (List.nodup_cons.1 hnod).2, fun b hb => by rw [hφ]; simp [hb], g1, g2⟩
            obtain ⟨F1, os, hrc, hF1n, hF1φ, hol, hoc⟩ := hold
            have hasz : (grownCap w (xs.length + 1) bl.cap e) * i'.size ≤ (os.toArray ++ vs.toArray ++ Builtin.zeroCells z'.cells (grownCap w (xs.length + 1) bl.cap e - (xs.length + 1))).size := by
             have hg := grownCap_ge w (xs.length + 1) bl.cap e
             simp only [Array.size_append, List.size_toArray, zf1, hol, hl1, hzs']
             have : xs.length * i'.size + i'.size = (xs.length + 1) * i'.size := by rw [Nat.add_mul]; omega
             rw [this, ← Nat.add_mul]
             exact Nat.mul_le_mul_right _ (by omega)
            obtain ⟨β', φ', hC', hβ⟩ := growO (e := e) (sz := i'.size) (cap := grownCap w (xs.length + 1) bl.cap e) (D := n :: m :: arrN ye) (zs := xs ++ [y']) (F := F1 ++ Fy) hC hn'
             (os.toArray ++ vs.toArray ++ Builtin.zeroCells z'.cells (grownCap w (xs.length + 1) bl.cap e - (xs.length + 1)))
             (fun k hk => by
              rcases List.mem_cons.1 hk with rfl | hk
              ·rw [hob]; simp
              ·rcases List.mem_cons.1 hk with rfl | hk
               ·rw [hobm]; simp
               ·exact (hnames k hk).1)
             (fun k hk => by
              rcases List.mem_cons.1 hk with rfl | hk
              ·exact hnY
              ·rcases List.mem_cons.1 hk with rfl | hk
               ·exact hmY
               ·exact (hnames k hk).2)
             (fun b hb => by
              rcases List.mem_append.1 hb with hb | hb
              ·exact ⟨n, by simp, hF1φ b hb⟩
              ·obtain ⟨k, hk, hbk⟩ := hFy b hb
               exact ⟨k, by simp [hk], hbk⟩)
             (List.nodup_append.2 ⟨hF1n, hFyn, fun b1 hb1 b2 hb2 e => by subst e; exact hFyd _ hb2 (hF1φ _ hb1)⟩)
             (by simpa using grownCap_ge w (xs.length + 1) bl.cap e) hasz
             (fun w' hF hblk => by
              rw [zji]
              refine ⟨F1, Fy, rfl, zza xs 0 F1 (fun j hj => ?_) (fun d hd => hF d (by simp [hd])) hrc, ?_⟩
              ·have hjo : j < os.length := by rw [hol]; exact hj
               rw [hoc j os[j] (List.getElem?_eq_getElem hjo), zc1 hblk, Nat.zero_add, Array.append_assoc, Array.getElem?_append_left (by simpa using hjo)]
               simp [hjo]
              ·rw [RWe]
               refine ⟨Fy, [], by simp, hylen, hRy w' _ _ (fun d hd => hF d (by simp [hd])) (fun j v hv hj => ?_), by rw [RWe]⟩
               have hvl := (List.getElem?_eq_some_iff.1 hv).1
               rw [zc1 hblk, Nat.zero_add, Array.append_assoc, Array.getElem?_append_right (by simp [hol])]
               simp only [List.size_toArray]
               rw [hol, show xs.length * i'.size + j - xs.length * i'.size = j by omega, Array.getElem?_append_left (by simpa using hvl)]
               simpa using hv)
            refine ⟨_, _, I, β', φ', ?_, ⟨_, hβ, ?_, .inl rfl⟩, hC'⟩
            ·rcases hp with rfl | ⟨h0, a0, rfl⟩
             ·have := run_append_grow (P := P) w t ty e i' z' hd hi' hz' ⟨bl.b, 0, none⟩ xs.length bl.cap os hol (fun j v hv => by rw [Addr.add_lit]; exact hoc j v hv) ⟨blm.b, 0, none⟩ 1 blm.cap vs (by rw [hl1]; omega) hcell' (by omega) (by omega)
               (growslice_fits (by omega) (by omega))
              simpa using this
             ·have hl0 : xs.length = 0 := by omega
              have hx0 : xs = [] := List.length_eq_zero_iff.1 hl0
              subst hx0
              have ho0 : os = [] := List.length_eq_zero_iff.1 (by simpa using hol)
              subst ho0
              cases a0 with
              | none =>
               have := run_append_nil (P := P) w t ty e i' z' hd hi' hz' ⟨blm.b, 0, none⟩ 1 blm.cap vs (by rw [hl1]; omega) hcell' (by omega) (by omega) (by have h : 1 * i'.bytes ≤ 2 ^ 47 := h47; exact Nat.le_trans h (by decide))
               simpa [← h0] using this
              | some a0 =>
               have := run_append_grow (P := P) w t ty e i' z' hd hi' hz' a0 0 0 [] (by simp) (by simp) ⟨blm.b, 0, none⟩ 1 blm.cap vs (by rw [hl1]; omega) hcell' (by omega) (by omega)
                (growslice_fits (by omega) (by omega))
               simpa [← h0] using this
            ·simpa using grownCap_ge w (xs.length + 1) bl.cap e
          ·cases h
         ·cases h
        ·cases h
     ·cases h
    ·cases h
   ·cases h
  ·cases h
 ·cases h
end
end Go.Proofs.Ytmheohnbkaoipaa.Vs
end
section
open Go
namespace Go.Proofs.Ytmheohnbkaoipaa.Vs
set_option linter.all false
set_option linter.unusedSimpArgs false
set_option linter.unusedVariables false
variable {P : Program}
theorem zjw {w : World} (len cap : Nat) {lo hi : Option Value} {A B : Nat} (hlo : (lo = none ∧ A = 0) ∨ ∃ k i, lo = some (.int k i) ∧ 0 ≤ i ∧ A = i.toNat) (hhi : (hi = none ∧ B = len) ∨ ∃ k i, hi = some (.int k i) ∧ 0 ≤ i ∧ B = i.toNat)
 (h1 : A ≤ B) (h2 : B ≤ cap) : (Instr.sliceBounds true len cap lo hi none).run P w = .ok (A, B, cap) w := by
 rcases hlo with ⟨rfl, rfl⟩ | ⟨k, i, rfl, hi0, rfl⟩ <;> rcases hhi with ⟨rfl, hB⟩ | ⟨k', i', rfl, hi0', hB⟩
 ·subst hB
  simp [Instr.sliceBounds]
 ·simp [Instr.sliceBounds, Instr.sliceBound, asIntOf, hi0', show i' ≤ (cap : Int) by omega, hB]
 ·subst hB
  have hle : i ≤ (B : Int) := by omega
  simp [Instr.sliceBounds, Instr.sliceBound, asIntOf, hi0, hle]
 ·have hle : i ≤ (i'.toNat : Int) := by omega
  have hle2 : i ≤ max i' 0 := by omega
  simp [Instr.sliceBounds, Instr.sliceBound, asIntOf, hi0, hi0', show i' ≤ (cap : Int) by omega, hB, hle2]
theorem zjx {w : World} (len cap : Nat) {lo : Option Value} {k k' : IntKind} {hi m : Int} {A : Nat} (hlo : (lo = none ∧ A = 0) ∨ ∃ k i, lo = some (.int k i) ∧ 0 ≤ i ∧ A = i.toNat)
 (h0 : 0 ≤ hi) (h1 : A ≤ hi.toNat) (h2 : hi ≤ m) (h3 : m ≤ (cap : Int)) : (Instr.sliceBounds true len cap lo (some (.int k hi)) (some (.int k' m))).run P w = .ok (A, hi.toNat, m.toNat) w := by
 have hm : 0 ≤ m := by omega
 rcases hlo with ⟨rfl, rfl⟩ | ⟨k2, i, rfl, hi0, rfl⟩
 ·simp [Instr.sliceBounds, Instr.sliceBound, asIntOf, h0, hm, h3, show hi ≤ max m 0 by omega]
 ·simp [Instr.sliceBounds, Instr.sliceBound, asIntOf, h0, hm, h3, show hi ≤ max m 0 by omega, hi0, show i ≤ max hi 0 by omega]
def aSliceC (P : Program) (st : St) (t : TypeId) (x : AV) (lo hi : Option AV) : ARes :=
 match ti P t, x with
 | some T, .arr n off len => match T.kind with
  | .slice e => match ti P e, optIdx 0 lo, optIdx len hi with
   | some E, some (c, a), some (d, b) => match st.ob n with
    | some (.winc sz _ cap) => some (c ∧ d ∧ a ≤ b ∧ off + b ≤ cap ∧ E.size = sz, .arr n (off + a) (b - a), [])
    | _ => none
   | _, _, _ => none
  | _ => none
 | _, _ => none
def aSlice3C (P : Program) (st : St) (t : TypeId) (x : AV) (lo : Option AV) (hi m : AV) : ARes :=
 match ti P t, x, hi, m with
 | some T, .arr n off len, .g (.int _ h), .g (.int _ mm) => match T.kind with
  | .slice e => match ti P e, optIdx 0 lo with
   | some E, some (c, a) => some (c ∧ 0 ≤ h ∧ a ≤ h.toNat ∧ h ≤ mm ∧ mm ≤ (len : Int), .undef, [])
   | _, _ => none
  | _ => none
 | _, _, _, _ => none
def aCapC (P : Program) (st : St) (ts : List TypeId) (x : AV) : ARes :=
 match ts, x with
 | [t], .arr n off len => match ti P t, st.ob n with
  | some T, some (.winc sz xs c) => match T.kind with
   | .slice _ => some (True, .g (.int .i64 (c - off : Nat)), [])
   | _ => none
  | _, _ => none
 | _, _ => none
def aSrcC (st : St) (sz : Nat) (x : AV) : Option (Prop × List (List AV)) :=
 match aNewsW st sz x with
 | some r => some r
 | none => match x with
  | .arr n off len => match st.ob n with
   | some (.winc s xs c) => if s = sz then some (off + len ≤ xs.length, (xs.drop off).take len) else none
   | _ => none
  | _ => none
def aSrcM (st : St) (sz m : Nat) (x : AV) : Option (Prop × List (List AV) × Nat) :=
 match aNewsW st sz x with
 | some r => some (r.1, r.2.take m, r.2.length)
 | none => match x with
  | .arr n off len => match st.ob n with
   | some (.winc s xs c) => if s = sz then some (off + min len m ≤ xs.length, (xs.drop off).take (min len m), len) else none
   | _ => none
  | _ => none
def aCopyC (P : Program) (st : St) (ts : List TypeId) (d s : AV) : ARes :=
 match ts with
 | [t, u] => match ti P t with
  | some T => match T.kind with
   | .slice e => match ti P e with
    | some E => match d with
     | .arr n o l => match aSrcM st E.size l s with
      | some (p, ys, tot) => match st.ob n with
       | some (.winc sz xs c) => if sz = E.size then some (p ∧ 0 < tot ∧ 0 < l ∧ o + l ≤ c ∧ o ≤ xs.length, .g (.int .i64 (min tot l : Nat)),
        [(n, .winc sz (xs.take o ++ ys ++ xs.drop (o + min tot l)) c)]) else none
       | _ => none
      | none => none
     | _ => none
    | none => none
   | _ => none
  | none => none
 | _ => none
def aAppC (P : Program) (st : St) (ts : List TypeId) (s x : AV) : ARes :=
 match ts with
 | [t, u] => match ti P t with
  | some T => match T.kind with
   | .slice e => match ti P e with
    | some E => match aSrcC st E.size x with
     | some (p, ys) => match s with
      | .arr n 0 l => match st.ob n with
       | some (.winc sz xs c) => if sz = E.size then some (p ∧ t = u ∧ 0 < c ∧ 0 < E.size ∧ l + ys.length ≤ c ∧ l ≤ xs.length, .arr n 0 (l + ys.length),
        [(n, .winc sz (xs.take l ++ ys ++ xs.drop (l + ys.length)) c)]) else none
       | _ => none
      | _ => none
     | none => none
    | none => none
   | _ => none
  | none => none
 | _ => none
def aAppZ (P : Program) (st : St) (nm : Nat) (ts : List TypeId) (s x : AV) : ARes :=
 match ts, s, x with
 | [t, u], .arr n 0 l, .g (.int _ m) => match ti P t, ti P u with
  | some T, some U => match T.kind, U.kind with
   | .slice e, .int _ => match ti P e, st.ob n with
    | some E, some (.winc sz xs c) => if sz = E.size then some ((st.ob nm).isNone = true ∧ 0 < m ∧ 0 < E.size ∧ E.zero.length = E.size ∧ E.zero.all isOne = true ∧ l ≤ xs.length ∧ 0 < c ∧ c < l + m.toNat ∧ (l + m.toNat) * E.bytes ≤ 2 ^ 47 ∧ l + m.toNat < 2 ^ 62,
     .arr nm 0 (l + m.toNat), [(nm, .win E.size (xs.take l ++ List.replicate m.toNat E.zero))]) else none
    | _, _ => none
   | _, _ => none
  | _, _ => none
 | _, _, _ => none
def aClearC (P : Program) (st : St) (ts : List TypeId) (x : AV) : ARes :=
 match ts, x with
 | [t], .arr n o l => match ti P t with
  | some T => match T.kind with
   | .slice e => match ti P e, st.ob n with
    | some E, some (.winc sz xs c) => if sz = E.size then some (E.zero.length = E.size ∧ E.zero.all isOne = true ∧ o + l ≤ c ∧ o ≤ xs.length, .g undef, [(n, .winc sz (xs.take o) c)]) else none
    | _, _ => none
   | _ => none
  | none => none
 | _, _ => none
section
variable {C : Cx} {st : St} {a : Act} {w : World} {I : Nat → Prop} {β : Beta} {φ : Nat → List Nat}
theorem zqv (hC : Conc C st a w I β φ) {t : TypeId} {x v : AV} {lo hi : Option AV} {p : Value} {plo phi : Option Value} {c : Prop} {u : Ups} (hx : Rv w I β x p) (hlo : RvO w I β lo plo) (hhi : RvO w I β hi phi)
 (h : aSliceC P st t x lo hi = some (c, v, u)) (hc : c) : Good P C st a w (Instr.sliceAt t p plo phi none) v u := by
 unfold aSliceC at h
 split at h
 ·rename_i T n off len hT
  split at h
  ·rename_i e hk
   have ht := zdh hT hk
   split at h
   ·rename_i E c1 A c2 B hE h1 h2
    obtain ⟨d', i', z', hd', hi', hz', rfl⟩ := zce hE
    obtain ⟨bl, hb, hle, hp⟩ := hx
    split at h
    ·rename_i sz xs cap hob
     cases h
     obtain ⟨hc1, hc2, h3, h4, hsz⟩ := hc
     obtain ⟨bl', hb', g1, g2, g3, g4, g5, -⟩ := hC.ob _ _ hob
     rw [hb] at hb'; cases hb'
     have hsz' : i'.size = bl.sz := by rw [g1]; exact hsz
     have key : ∀ a' cap', B ≤ cap' → (Instr.sliceAt t (.slice a' len cap') plo phi none).run P w = .ok (.slice (if cap' = A then a' else a'.map (·.add (A * i'.size))) (B - A) (cap' - A)) w := by
      intro a' cap' hcap
      have hb := zjw (P := P) (w := w) len cap' (zfb hlo h1 hc1) (zfb hhi h2 hc2) h3 hcap
      simp [Instr.sliceAt, run_underlying ht, Instr.slice, hb, sizeOf, typeInfo, hi']
     rcases hp with rfl | ⟨h0, a0, rfl⟩
     ·refine zby hC (key _ _ (by omega)) ⟨bl, hb, by omega, ?_⟩
      by_cases hcA : bl.cap - off = A
      ·rw [if_pos hcA]
       refine .inr ⟨by omega, some ⟨bl.b, bl.o + off * bl.sz, none⟩, ?_⟩
       congr 1 <;> omega
      ·rw [if_neg hcA]
       refine .inl ?_
       simp only [Option.map_some, Addr.add_lit, hsz', Nat.add_mul, Nat.add_assoc]
       congr 1; omega
     ·have hA : A = 0 := by omega
      have hB : B = 0 := by omega
      subst hA; subst hB
      have hl0 : len = 0 := by omega
      subst hl0
      have h00 := key a0 0 (by omega)
      refine zby hC h00 ⟨bl, hb, by omega, .inr ⟨by omega, a0, by simp⟩⟩
    ·cases h
   ·cases h
  ·cases h
 ·cases h
theorem zn8 (hC : Conc C st a w I β φ) {t : TypeId} {x v hi m : AV} {lo : Option AV} {p phi pm : Value} {plo : Option Value} {c : Prop} {u : Ups} (hx : Rv w I β x p) (hlo : RvO w I β lo plo) (hhi : Rv w I β hi phi) (hm : Rv w I β m pm)
 (h : aSlice3C P st t x lo hi m = some (c, v, u)) (hc : c) : Good P C st a w (Instr.sliceAt t p plo (some phi) (some pm)) v u := by
 unfold aSlice3C at h
 split at h
 ·rename_i T n off len k1 hh k2 mm hT
  split at h
  ·rename_i e hk
   have ht := zdh hT hk
   split at h
   ·rename_i E c1 A hE h1
    obtain ⟨d', i', z', hd', hi', hz', rfl⟩ := zce hE
    cases h
    obtain ⟨hc1, g0, g1, g2, g3⟩ := hc
    cases hhi; cases hm
    obtain ⟨bl, hb, hle, hp⟩ := hx
    have hs : ∃ a' cap', p = .slice a' len cap' ∧ len ≤ cap' := by
     rcases hp with rfl | ⟨h0, a0, rfl⟩
     ·exact ⟨_, _, rfl, by omega⟩
     ·have : len = 0 := by omega
      subst this
      exact ⟨_, _, rfl, by omega⟩
    obtain ⟨a', cap', rfl, hcap⟩ := hs
    have hb := zjx (P := P) (w := w) len cap' (k := k1) (k' := k2) (zfb hlo h1 hc1) g0 g1 g2 (by omega)
    exact zby hC (y := .slice (if mm.toNat = A then a' else a'.map (·.add (A * i'.size))) (hh.toNat - A) (mm.toNat - A)) (by simp [Instr.sliceAt, run_underlying ht, Instr.slice, hb, sizeOf, typeInfo, hi']) trivial
   ·cases h
  ·cases h
 ·cases h
theorem zwf (hC : Conc C st a w I β φ) {ts : List TypeId} {ty : TypeId} {x v : AV} {p : Value} {c : Prop} {u : Ups} (hx : Rv w I β x p)
 (h : aCapC P st ts x = some (c, v, u)) (hc : c) : Good P C st a w (Builtin.cap_ ts.toArray ty #[p]) v u := by
 unfold aCapC at h
 split at h
 ·rename_i t n off len
  split at h
  ·rename_i T sz xs cc hT hob
   split at h
   ·rename_i e hk
    cases h
    have ht := zdh hT hk
    obtain ⟨bl, hb, hle, hp⟩ := hx
    obtain ⟨bl', hb', g1, g2, g3, g4, g5, -⟩ := hC.ob _ _ hob
    rw [hb] at hb'; cases hb'
    rcases hp with rfl | ⟨h0, a0, rfl⟩
    ·exact zby hC (y := .int .i64 (cc - off : Nat)) (by simp [Builtin.cap_, run_underlying ht, goInt, g4]) rfl
    ·exact zby hC (y := .int .i64 (cc - off : Nat)) (by simp [Builtin.cap_, run_underlying ht, goInt, show cc - off = 0 by omega]) rfl
   ·cases h
  ·cases h
 ·cases h
theorem zzb (hC : Conc C st a w I β φ) {sz : Nat} {x : AV} {p : Prop} {ys : List (List AV)} (h : aSrcC st sz x = some (p, ys)) (hp : p) {y : Value} (hy : Rv w I β x y) :
 (ys = [] ∧ ∃ a' cap, y = .slice a' 0 cap) ∨ ∃ b o cap, y = .slice (some ⟨b, o, none⟩) ys.length cap ∧ RJe w I β b sz o ys := by
 unfold aSrcC at h
 split at h
 ·rename_i r hr
  cases h
  exact zgz hC hr hp hy
 ·split at h
  ·rename_i n off len _
   split at h
   ·rename_i s xs c hob
    split at h
    ·rename_i hs
     cases h
     obtain ⟨bl, hb, hle, hv⟩ := hy
     obtain ⟨bl', hb', g1, g2, g3, g4, g5, g6, g7⟩ := hC.ob _ _ hob
     rw [hb] at hb'; cases hb'
     have hyl : ((xs.drop off).take len).length = len := by simp; omega
     rcases hv with rfl | ⟨h0, a0, rfl⟩
     ·refine .inr ⟨bl.b, bl.o + off * bl.sz, bl.cap - off, by rw [hyl], ?_⟩
      have := zfa _ _ len (zj4 _ _ off g7)
      rw [g2, g1]
      rw [← hs]
      exact this
     ·have hl0 : len = 0 := by omega
      subst hl0
      exact .inl ⟨by simp, _, _, rfl⟩
    ·cases h
   ·cases h
  ·cases h
theorem zzc (hC : Conc C st a w I β φ) {sz m tot : Nat} {x : AV} {p : Prop} {ys : List (List AV)} (h : aSrcM st sz m x = some (p, ys, tot)) (hp : p) (h0 : 0 < tot) {y : Value} (hy : Rv w I β x y) :
 ys.length = min tot m ∧ ∃ b o cap, y = .slice (some ⟨b, o, none⟩) tot cap ∧ RJe w I β b sz o ys := by
 unfold aSrcM at h
 split at h
 ·rename_i r hr
  cases h
  obtain ⟨q, zs⟩ := r
  rcases zgz hC hr hp hy with ⟨h, -⟩ | ⟨b, o, cap, h1, h2⟩
  ·simp only at h h0; rw [h] at h0; simp at h0
  ·exact ⟨by simp; omega, b, o, cap, h1, zfa _ _ m h2⟩
 ·split at h
  ·rename_i n off len _
   split at h
   ·rename_i s xs c hob
    split at h
    ·rename_i hs
     cases h
     obtain ⟨bl, hb, hle, hv⟩ := hy
     obtain ⟨bl', hb', g1, g2, g3, g4, g5, g6, g7⟩ := hC.ob _ _ hob
     rw [hb] at hb'; cases hb'
     rcases hv with rfl | ⟨h0', a0, rfl⟩
     ·refine ⟨by simp; omega, bl.b, bl.o + off * bl.sz, bl.cap - off, rfl, ?_⟩
      have := zfa _ _ (min tot m) (zj4 _ _ off g7)
      rw [g2, g1]
      rw [← hs]
      exact this
     ·omega
    ·cases h
   ·cases h
  ·cases h
theorem Conc.spliceC (hC : Conc C st a w I β φ) {n sz c : Nat} {xs xs' : List (List AV)} (hob : st.ob n = some (.winc sz xs c)) {vs : List Value} (q : Nat) (hone : ∀ v ∈ vs, v.oneCell' = true) (hfit : q + vs.length ≤ c * sz) (hl' : xs'.length ≤ c)
 (hel : ∀ (i : Nat) x', xs'[i]? = some x' → x'.length = sz ∧ ∀ (j : Nat) d, x'[j]? = some d → (∃ v, q ≤ i * sz + j ∧ vs[i * sz + j - q]? = some v ∧ R1 w I β d v) ∨ ((i * sz + j < q ∨ q + vs.length ≤ i * sz + j) ∧ ∃ x, xs[i]? = some x ∧ x[j]? = some d)) :
 ∃ (bl : Bl) (arr : Array Value) (ty : TypeId), β n = some bl ∧ bl.o = 0 ∧ bl.sz = sz ∧ bl.cap = c ∧ w.heap[bl.b]? = some (.cells arr ty (0, 0)) ∧ c * sz ≤ arr.size ∧
  Conc C { st with ob := upd st.ob n (some (.winc sz xs' c)) } a (w.setRow bl.b (arr.toList.take q ++ vs ++ arr.toList.drop (q + vs.length)).toArray) I β φ := by
 obtain ⟨bl, hb, g1, g2, g3, g4, g5, ⟨arr, ty, hh, hsize⟩, g7⟩ := hC.ob _ _ hob
 refine ⟨bl, arr, ty, hb, g2, g1, g4, hh, by rw [← g4]; omega, ?_⟩
 have hfit2 : q + vs.length ≤ arr.toList.length := by rw [Array.length_toList (xs := arr)]; rw [g4] at hsize; omega
 have hnew := setRow_heap w bl.b arr (arr.toList.take q ++ vs ++ arr.toList.drop (q + vs.length)).toArray ty (0, 0) hh
 have hev : ∀ b, I b → (w.setRow bl.b (arr.toList.take q ++ vs ++ arr.toList.drop (q + vs.length)).toArray).heap[b]? = w.heap[b]? := fun b hb' => setRow_other w bl.b b _ (by rintro rfl; exact hC.nimm n _ (by rw [g5]; simp) hb')
 have hspl : ∀ k, (w.setRow bl.b (arr.toList.take q ++ vs ++ arr.toList.drop (q + vs.length)).toArray).cell? ⟨bl.b, k, none⟩ = if q ≤ k ∧ k < q + vs.length then vs[k - q]? else arr[k]? := by
  intro k
  rw [zc1 hnew, List.getElem?_toArray, zdw _ _ _ hfit2]
  simp
 have hro : RO (w.setRow bl.b (arr.toList.take q ++ vs ++ arr.toList.drop (q + vs.length)).toArray) I β n (.winc sz xs' c) (φ n) := by
  refine ⟨bl, hb, g1, g2, by omega, g4, g5, ⟨_, ty, hnew, ?_⟩, ?_⟩
  ·simp only [List.size_toArray, List.length_append, List.length_take, List.length_drop]
   rw [Array.length_toList (xs := arr)] at hfit2 ⊢
   omega
  ·rw [zge]
   intro i x' hx'
   obtain ⟨k1, k2⟩ := hel i x' hx'
   refine ⟨k1, ?_⟩
   rw [zdx]
   intro j d hd
   rw [Nat.zero_add, hspl]
   rcases k2 j d hd with ⟨v, v1, v2, v3⟩ | ⟨hout, x, hx, hd'⟩
   ·have := (List.getElem?_eq_some_iff.1 v2).1
    exact ⟨v, by rw [if_pos (by omega)]; exact v2, zfq (fun _ h => h) hev (fun _ _ h => h) d v v3⟩
   ·obtain ⟨f1, f2⟩ := zhi _ _ _ _ g7 hx
    obtain ⟨v, hv, hr⟩ := (zdx _ _).1 f2 j d hd'
    rw [Nat.zero_add, zc1 hh] at hv
    exact ⟨v, by rw [if_neg (by omega)]; exact hv, zfq (fun _ h => h) hev (fun _ _ h => h) d v hr⟩
 have := hC.absorb (w' := w.setRow bl.b (arr.toList.take q ++ vs ++ arr.toList.drop (q + vs.length)).toArray) (n := n) (D := []) (o' := .winc sz xs' c) (F := φ n) (zdo w bl.b _ _ (by rw [g5]; simp)) (by rw [hob]; simp) (by simp) (by simp) (fun b hb => .inl hb) (fun b hb => hC.wok n _ hob rfl b hb) (by simp) (by intro s xs h; cases h) hro
 have e : (fun k => if k = n then φ n else if k ∈ ([] : List Nat) then [] else φ k) = φ := by
  funext k
  by_cases hk : k = n
  ·rw [if_pos hk, hk]
  ·rw [if_neg hk]; simp
 rw [e] at this
 exact this
theorem zsk {w : World} (dT sT ty elem : TypeId) (i : TypeInfo) (hd : P.underlying dT = some (.slice elem)) (hi : P.info? elem = some i) (g o dLen dCap : Nat) (a : Addr) (sLen sCap : Nat) (cur : Array Value) (t : TypeId) (cs : List Value)
 (hg : w.heap[g]? = some (.cells cur t (0, 0))) (hn : cs.length = Nat.min sLen dLen * i.size) (hsrc : ∀ j v, cs[j]? = some v → w.cell? (a.add j) = some v) (hfit : o + cs.length ≤ cur.size) (h1 : ∀ v ∈ cs, v.oneCell' = true) :
 (Builtin.copy_ #[dT, sT] ty #[.slice (some ⟨g, o, none⟩) dLen dCap, .slice (some a) sLen sCap]).run P w = .ok (goInt (Nat.min sLen dLen)) (w.setRow g (cur.toList.take o ++ cs ++ cur.toList.drop (o + cs.length)).toArray) := by
 have hl := run_loadCells_list (P := P) w a cs hsrc
 have hst := run_storeCells_at P g o t cs 0 cur w hg (by simpa using hfit) h1
 simp [Builtin.copy_, run_underlying hd, Builtin.lenOf, Builtin.firstCells, sizeOf, typeInfo, hi, ← hn, hl, hst]
theorem zqw {w : World} {I : Nat → Prop} {β : Beta} {sz o : Nat} {xs ys : List (List AV)} {vs : List Value} (ho : o ≤ xs.length) (hxs : ∀ x ∈ xs, x.length = sz) (hl : vs.length = ys.length * sz)
 (hel : ∀ (i : Nat) y, ys[i]? = some y → y.length = sz ∧ ∀ (j : Nat) d, y[j]? = some d → ∃ v, vs[i * sz + j]? = some v ∧ R1 w I β d v) :
 ∀ (i : Nat) x', (xs.take o ++ ys ++ xs.drop (o + ys.length))[i]? = some x' → x'.length = sz ∧ ∀ (j : Nat) d, x'[j]? = some d → (∃ v, o * sz ≤ i * sz + j ∧ vs[i * sz + j - o * sz]? = some v ∧ R1 w I β d v) ∨ ((i * sz + j < o * sz ∨ o * sz + vs.length ≤ i * sz + j) ∧ ∃ x, xs[i]? = some x ∧ x[j]? = some d) := by
 intro i x' hx'
 have hto : (xs.take o).length = o := by simp; omega
 by_cases h1 : i < o
 ·rw [List.append_assoc, List.getElem?_append_left (by rw [hto]; exact h1), List.getElem?_take, if_pos h1] at hx'
  have hsz := hxs x' (List.mem_of_getElem? hx')
  refine ⟨hsz, fun j d hd => .inr ⟨.inl ?_, x', hx', hd⟩⟩
  have hj := (List.getElem?_eq_some_iff.1 hd).1
  have : (i + 1) * sz ≤ o * sz := Nat.mul_le_mul_right _ h1
  rw [Nat.add_mul, Nat.one_mul] at this
  omega
 ·by_cases h2 : i < o + ys.length
  ·rw [List.append_assoc, List.getElem?_append_right (by rw [hto]; omega), hto, List.getElem?_append_left (by omega)] at hx'
   obtain ⟨k1, k2⟩ := hel _ _ hx'
   refine ⟨k1, fun j d hd => .inl ?_⟩
   obtain ⟨v, hv, hr⟩ := k2 j d hd
   have e : i * sz = (i - o) * sz + o * sz := by rw [← Nat.add_mul]; congr 1; omega
   exact ⟨v, by omega, by rw [e]; rw [← hv]; congr 1; omega, hr⟩
  ·rw [List.getElem?_append_right (by simp; omega)] at hx'
   rw [List.getElem?_drop] at hx'
   have hi : o + ys.length + (i - (xs.take o ++ ys).length) = i := by simp only [List.length_append, hto]; omega
   rw [hi] at hx'
   have hsz := hxs x' (List.mem_of_getElem? hx')
   refine ⟨hsz, fun j d hd => .inr ⟨.inr ?_, x', hx', hd⟩⟩
   have : (o + ys.length) * sz ≤ i * sz := Nat.mul_le_mul_right _ (by omega)
   rw [Nat.add_mul] at this
   omega
theorem zsl {w : World} {I : Nat → Prop} {β : Beta} {b sz o : Nat} {xs : List (List AV)} (h : RJe w I β b sz o xs) : ∀ x ∈ xs, x.length = sz := by
 intro x hx
 obtain ⟨i, hi⟩ := List.getElem?_of_mem hx
 exact (zhi _ _ _ _ h hi).1
theorem zsm (hC : Conc C st a w I β φ) {ts : List TypeId} {ty : TypeId} {d s v : AV} {p q : Value} {c : Prop} {u : Ups} (hd : Rv w I β d p) (hs : Rv w I β s q)
 (h : aCopyC P st ts d s = some (c, v, u)) (hc : c) : Good P C st a w (Builtin.copy_ ts.toArray ty #[p, q]) v u := by
 unfold aCopyC at h
 split at h
 ·rename_i t t2
  split at h
  ·rename_i T hT
   split at h
   ·rename_i e hk
    have ht := zdh hT hk
    split at h
    ·rename_i E hE
     obtain ⟨d', i', z', hd', hi', hz', rfl⟩ := zce hE
     split at h
     ·rename_i n o l
      split at h
      ·rename_i pp ys tot hsrc
       split at h
       ·rename_i sz xs cc hob
        split at h
        ·rename_i hsz
         cases h
         obtain ⟨hp, hy0, hl0, hol, hox⟩ := hc
         obtain ⟨bl, hb, hle, hv⟩ := hd
         obtain ⟨bl', hb', g1, g2, g3, g4, g5, g6, g7⟩ := hC.ob _ _ hob
         rw [hb] at hb'; cases hb'
         rcases hv with rfl | ⟨h0, a0, rfl⟩
         rotate_left
         ·omega
         obtain ⟨htl, b2, o2, cap2, rfl, hr2⟩ := zzc hC hsrc hp hy0 hs
         have hsz' : i'.size = sz := hsz.symm
         obtain ⟨vs, hvl, hcell, hone, hel⟩ := zfx _ _ hr2
         rw [htl] at hvl
         have hbnd : o * sz + vs.length ≤ cc * sz := by
          rw [hvl]; show o * sz + _ * i'.size ≤ _
          rw [hsz', ← Nat.add_mul]; exact Nat.mul_le_mul_right _ (by omega)
         have hxl := zsl g7
         obtain ⟨bl2, arr, ety, k1, k2, k3, k4, k5, k6, k7⟩ := hC.spliceC hob (xs' := xs.take o ++ ys ++ xs.drop (o + min tot l)) (o * sz) hone hbnd (by simp; omega) (by
          have := zqw (w := w) (I := I) (β := β) (vs := vs) (ys := ys) hox (fun x hx => by rw [hxl x hx]) (by rw [htl, hvl]; show _ * i'.size = _; rw [hsz']) (fun i y hy => by
           obtain ⟨f1, f2⟩ := hel i y hy
           refine ⟨by rw [f1]; exact hsz', fun j d hd => ?_⟩
           obtain ⟨v, h1, h2⟩ := f2 j d hd
           exact ⟨v, by rw [← h1]; congr 2; show i * sz = i * i'.size; rw [hsz'], h2⟩)
          rwa [htl] at this)
         rw [hb] at k1; cases k1
         have hrun := zsk (P := P) (w := w) t t2 ty e i' ht hi' bl.b (o * sz) l (bl.cap - o) ⟨b2, o2, none⟩ tot cap2 arr ety vs k5 hvl (fun j v hv => by rw [Addr.add_lit]; exact hcell j v hv) (by omega) hone
         exact ⟨_, _, I, β, φ, by rw [k2, k3, Nat.zero_add]; exact hrun, rfl, k7⟩
        ·cases h
       ·cases h
      ·cases h
     ·cases h
    ·cases h
   ·cases h
  ·cases h
 ·cases h
theorem zwg (hC : Conc C st a w I β φ) {ts : List TypeId} {ty : TypeId} {d s v : AV} {p q : Value} {c : Prop} {u : Ups} (hd : Rv w I β d p) (hs : Rv w I β s q)
 (h : aAppC P st ts d s = some (c, v, u)) (hc : c) : Good P C st a w (Builtin.append_ ts.toArray ty #[p, q]) v u := by
 unfold aAppC at h
 split at h
 ·rename_i t t2
  split at h
  ·rename_i T hT
   split at h
   ·rename_i e hk
    have ht := zdh hT hk
    split at h
    ·rename_i E hE
     obtain ⟨d', i', z', hd', hi', hz', rfl⟩ := zce hE
     split at h
     ·rename_i pp ys hsrc
      split at h
      ·rename_i n l
       split at h
       ·rename_i sz xs cc hob
        split at h
        ·rename_i hsz
         cases h
         obtain ⟨hp, rfl, hcc, hsz0, hol, hox⟩ := hc
         obtain ⟨bl, hb, hle, hv⟩ := hd
         obtain ⟨bl', hb', g1, g2, g3, g4, g5, g6, g7⟩ := hC.ob _ _ hob
         rw [hb] at hb'; cases hb'
         have hsz' : i'.size = sz := hsz.symm
         have hxl := zsl g7
         rcases hv with rfl | ⟨h0, a0, rfl⟩
         rotate_left
         ·omega
         rcases zzb hC hsrc hp hs with ⟨rfl, a', cap', rfl⟩ | ⟨b2, o2, cap2, rfl, hr⟩
         ·refine ⟨_, w, I, β, φ, zcv w t ty e i' ht hi' _ a' l (bl.cap - 0) cap' (by omega), ⟨bl, hb, by simp; omega, .inl (by simp)⟩, ?_⟩
          have : xs.take l ++ [] ++ xs.drop (l + ([] : List (List AV)).length) = xs := by simp
          rw [this]
          have e2 : upd st.ob n (some (OB.winc sz xs cc)) = st.ob := by
           funext m
           by_cases hm : m = n
           ·subst hm; rw [zbj, hob]
           ·rw [zbg _ _ hm]
          show Conc C { st with ob := upd st.ob n (some (.winc sz xs cc)) } a w I β φ
          rw [e2]; exact hC
         ·obtain ⟨vs, hvl, hcell, hone, hel⟩ := zfx _ _ hr
          have hbnd : l * sz + vs.length ≤ cc * sz := by
           rw [hvl]; show l * sz + _ * i'.size ≤ _
           rw [hsz', ← Nat.add_mul]; exact Nat.mul_le_mul_right _ (by omega)
          obtain ⟨bl2, arr, ety, k1, k2, k3, k4, k5, k6, k7⟩ := hC.spliceC hob (xs' := xs.take l ++ ys ++ xs.drop (l + ys.length)) (l * sz) hone hbnd (by simp; omega) (by
           exact zqw (w := w) (I := I) (β := β) (vs := vs) (ys := ys) hox (fun x hx => by rw [hxl x hx]) (by rw [hvl]; show _ * i'.size = _; rw [hsz']) (fun i y hy => by
            obtain ⟨f1, f2⟩ := hel i y hy
            refine ⟨by rw [f1]; exact hsz', fun j d hd => ?_⟩
            obtain ⟨v, h1, h2⟩ := f2 j d hd
            exact ⟨v, by rw [← h1]; congr 2; show i * sz = i * i'.size; rw [hsz'], h2⟩))
          rw [hb] at k1; cases k1
          have hrun := zdn (P := P) w t ty e ety i' ht hi' bl.b l bl.cap arr k5 ⟨b2, o2, none⟩ ys.length cap2 vs hvl (fun j v hv => by rw [Addr.add_lit]; exact hcell j v hv) hone (by omega) (by rw [hsz']; omega)
          refine ⟨_, _, I, β, φ, ?_, ⟨bl, hb, by omega, .inl rfl⟩, k7⟩
          rw [k2, Nat.zero_mul, Nat.add_zero, Nat.sub_zero]
          rw [hrun, hsz']
        ·cases h
       ·cases h
      ·cases h
     ·cases h
    ·cases h
   ·cases h
  ·cases h
 ·cases h
theorem zwh (hC : Conc C st a w I β φ) {nm : Nat} {ts : List TypeId} {ty : TypeId} {d s v : AV} {p q : Value} {c : Prop} {u : Ups} (hd : Rv w I β d p) (hs : Rv w I β s q)
 (h : aAppZ P st nm ts d s = some (c, v, u)) (hc : c) : Good P C st a w (Builtin.append_ ts.toArray ty #[p, q]) v u := by
 unfold aAppZ at h
 split at h
 ·rename_i t t2 n l kk m
  split at h
  ·rename_i T U hT hU
   split at h
   ·rename_i e k2 hk hku
    have ht := zdh hT hk
    have htu := zts hU hku
    split at h
    ·rename_i E sz xs cc hE hob
     obtain ⟨d', i', z', hd', hi', hz', rfl⟩ := zce hE
     split at h
     ·rename_i hsz
      cases h
      obtain ⟨hn, hm0, hsz0, hzs, hone0, hlx, hcc, hcl, h47, h62⟩ := hc
      have hn' : st.ob nm = none := by simpa using hn
      have hzs' : z'.cells.size = i'.size := by simpa using hzs
      have hsz' : i'.size = sz := hsz.symm
      cases hs
      obtain ⟨bl, hb, hle, hv⟩ := hd
      obtain ⟨bl', hb', g1, g2, g3, g4, g5, g6, g7⟩ := hC.ob _ _ hob
      rw [hb] at hb'; cases hb'
      rcases hv with rfl | ⟨h0, a0, rfl⟩
      rotate_left
      ·omega
      have hone : ∀ v ∈ z'.cells.toList, v.oneCell' = true := by
       intro v hv
       have := List.all_eq_true.1 hone0 (cv v) (List.mem_map_of_mem hv)
       cases v <;> first | rfl | (simpa [cv, isOne, Value.oneCell'] using this)
      obtain ⟨os, hol, hoc, hoo, hoel⟩ := zfx _ _ (zfa _ _ l g7)
      have hxl : (xs.take l).length = l := by simp; omega
      rw [hxl] at hol
      have hmn : m = (m.toNat : Int) := by omega
      have hnl : (Builtin.zeroCells z'.cells m.toNat).toList.length = (List.replicate m.toNat (z'.cells.toList.map cv)).length * sz := by
       rw [Array.length_toList (xs := Builtin.zeroCells z'.cells m.toNat)]; simp [Builtin.zeroCells, hzs', hsz']
      obtain ⟨β', φ', hC', hβ⟩ := zgm (e := e) hC hn' z'.cells (hzs'.trans hsz') (os := os) (ns := (Builtin.zeroCells z'.cells m.toNat).toList) (xs := xs.take l) (ys := List.replicate m.toNat (z'.cells.toList.map cv)) (by rw [hxl]; exact hol) hnl (fun i x hx => hoel i x hx)
       (fun k x hx => by
        rw [List.getElem?_replicate] at hx
        split at hx
        ·rename_i hk
         cases hx
         refine ⟨by simp [hzs', hsz'], fun j c hc => ?_⟩
         rw [List.getElem?_map] at hc
         cases hj : z'.cells.toList[j]? with
         | none => simp [hj] at hc
         | some v =>
          rw [hj] at hc; cases hc
          have hjl : j < z'.cells.size := by have := (List.getElem?_eq_some_iff.1 hj).1; simpa using this
          have h1v := hone v (List.mem_of_getElem? hj)
          refine ⟨v, ?_, ?_, h1v⟩
          ·have hb : k * i'.size + i'.size ≤ m.toNat * i'.size := by
            have : (k + 1) * i'.size ≤ m.toNat * i'.size := Nat.mul_le_mul_right _ (by omega)
            rwa [Nat.add_mul, Nat.one_mul] at this
           rw [Array.getElem?_toList, ← hsz', ← hzs']
           show ((Array.range (m.toNat * z'.cells.size)).map fun i => z'.cells[i % z'.cells.size]!)[k * z'.cells.size + j]? = some v
           rw [zhs _ _ _ (by rw [hzs'] at *; omega), ← hj, Array.getElem?_toList]
           congr 1
           rw [Nat.mul_comm, Nat.mul_add_mod, Nat.mod_eq_of_lt hjl]
          ·cases v <;> first | rfl | exact rfl
        ·cases hx) (grownCap w (l + m.toNat) bl.cap e) (by rw [hxl]; simp only [List.length_replicate]; exact grownCap_ge w _ _ e) _ rfl
      have hrun := Lib.run_append_grow_zeros (P := P) w t t2 ty e i' z' kk k2 ht htu hi' hz' (some ⟨bl.b, 0, none⟩) l bl.cap os (run_firstCells_some (P := P) w.drew i'.size l ⟨bl.b, 0, none⟩ l bl.cap os (by rw [hol, hsz']) (fun j v hv => by rw [Addr.add_lit]; exact hoc j v hv)) m.toNat (by omega) hsz0 (by omega) (by omega) (by
       have := h47
       rw [Nat.add_mul] at this
       exact Nat.le_trans (Nat.le_trans (Nat.le_add_left _ _) this) (by decide)) (growslice_fits (by omega) h47)
      refine ⟨_, _, I, β', φ', ?_, ⟨_, hβ, ?_, .inl rfl⟩, (show Conc C { st with ob := upd st.ob nm (some (.win i'.size (xs.take l ++ List.replicate m.toNat (z'.cells.toList.map cv)))) } a _ I β' φ' by rw [hsz']; exact hC')⟩
      ·rw [g2, Nat.zero_mul, Nat.add_zero, Nat.sub_zero, hmn]
       simp only [Int.toNat_natCast]
       rw [hrun]
       simp [hxl]
      ·simp only [Nat.zero_add]; exact grownCap_ge w _ _ e
     ·cases h
    ·cases h
   ·cases h
  ·cases h
 ·cases h
theorem zqx (hC : Conc C st a w I β φ) {ts : List TypeId} {ty : TypeId} {x v : AV} {p : Value} {c : Prop} {u : Ups} (hx : Rv w I β x p)
 (h : aClearC P st ts x = some (c, v, u)) (hc : c) : Good P C st a w (Builtin.clear_ ts.toArray ty #[p]) v u := by
 unfold aClearC at h
 split at h
 ·rename_i t n o l
  split at h
  ·rename_i T hT
   split at h
   ·rename_i e hk
    have ht := zdh hT hk
    split at h
    ·rename_i E sz xs cc hE hob
     obtain ⟨d', i', z', hd', hi', hz', rfl⟩ := zce hE
     split at h
     ·rename_i hsz
      cases h
      obtain ⟨hzs, hone0, hol, hox⟩ := hc
      have hzs' : z'.cells.size = i'.size := by simpa using hzs
      have hsz' : i'.size = sz := hsz.symm
      obtain ⟨bl, hb, hle, hv⟩ := hx
      obtain ⟨bl', hb', g1, g2, g3, g4, g5, g6, g7⟩ := hC.ob _ _ hob
      rw [hb] at hb'; cases hb'
      have hone : ∀ v ∈ z'.cells.toList, v.oneCell' = true := by
       intro v hv
       have := List.all_eq_true.1 hone0 (cv v) (List.mem_map_of_mem hv)
       cases v <;> first | rfl | (simpa [cv, isOne, Value.oneCell'] using this)
      have hxl := zsl g7
      have hel : ∀ (vs : List Value) (i : Nat) x', (xs.take o)[i]? = some x' → x'.length = sz ∧ ∀ (j : Nat) d, x'[j]? = some d → (∃ v, o * sz ≤ i * sz + j ∧ vs[i * sz + j - o * sz]? = some v ∧ R1 w I β d v) ∨ ((i * sz + j < o * sz ∨ o * sz + vs.length ≤ i * sz + j) ∧ ∃ x, xs[i]? = some x ∧ x[j]? = some d) := by
       intro vs i x' hx'
       rw [List.getElem?_take] at hx'
       split at hx'
       ·rename_i hio
        have hsz2 := hxl x' (List.mem_of_getElem? hx')
        refine ⟨hsz2, fun j d hd => .inr ⟨.inl ?_, x', hx', hd⟩⟩
        have hj := (List.getElem?_eq_some_iff.1 hd).1
        have : (i + 1) * sz ≤ o * sz := Nat.mul_le_mul_right _ hio
        rw [Nat.add_mul, Nat.one_mul] at this
        omega
       ·cases hx'
      have hocc : o * sz ≤ cc * sz := Nat.mul_le_mul_right _ (by omega)
      by_cases hl0 : l = 0
      ·subst hl0
       obtain ⟨bl2, arr, ety, k1, k2, k3, k4, k5, k6, k7⟩ := hC.spliceC hob (xs' := xs.take o) (vs := []) (o * sz) (by simp) (by simpa using hocc) (by simp; omega) (hel [])
       have e2 : w.setRow bl2.b (arr.toList.take (o * sz) ++ [] ++ arr.toList.drop (o * sz + ([] : List Value).length)).toArray = w := by
        simp only [List.append_nil, List.length_nil, Nat.add_zero, List.take_append_drop, Array.toArray_toList]
        exact setRow_self w _ arr ety (0, 0) k5
       rw [e2] at k7
       have hp : ∃ a' c', p = .slice a' 0 c' := by
        rcases hv with rfl | ⟨-, a0, rfl⟩
        ·exact ⟨_, _, rfl⟩
        ·exact ⟨_, _, rfl⟩
       obtain ⟨a', c', rfl⟩ := hp
       refine ⟨undef, w, I, β, φ, ?_, rfl, k7⟩
       cases a' <;> simp [Builtin.clear_, run_underlying ht, undef]
      ·rcases hv with rfl | ⟨h0, a0, rfl⟩
       rotate_left
       ·omega
       have hvl : (Builtin.zeroCells z'.cells l).toList.length = l * sz := by
        rw [Array.length_toList (xs := Builtin.zeroCells z'.cells l)]; simp [Builtin.zeroCells, hzs', hsz']
       have hvo : ∀ v ∈ (Builtin.zeroCells z'.cells l).toList, v.oneCell' = true := by
        intro v hv
        simp only [Builtin.zeroCells, Array.toList_map, List.mem_map, Array.mem_toList_iff, Array.mem_range] at hv
        obtain ⟨k, hk, rfl⟩ := hv
        have hpos : 0 < z'.cells.size := by
         rcases Nat.eq_zero_or_pos z'.cells.size with h | h
         ·rw [h] at hk; simp at hk
         ·exact h
        have hlt : k % z'.cells.size < z'.cells.size := Nat.mod_lt _ hpos
        rw [getElem!_pos z'.cells _ hlt]
        exact hone _ (by simp)
       have hbnd : o * sz + (Builtin.zeroCells z'.cells l).toList.length ≤ cc * sz := by rw [hvl, ← Nat.add_mul]; exact Nat.mul_le_mul_right _ hol
       obtain ⟨bl2, arr, ety, k1, k2, k3, k4, k5, k6, k7⟩ := hC.spliceC hob (xs' := xs.take o) (vs := (Builtin.zeroCells z'.cells l).toList) (o * sz) hvo hbnd (by simp; omega) (hel _)
       rw [hb] at k1; cases k1
       have hst := run_storeCells_at P bl.b (o * sz) ety (Builtin.zeroCells z'.cells l).toList 0 arr w k5 (by simpa using Nat.le_trans hbnd k6) hvo
       refine ⟨undef, _, I, β, φ, ?_, rfl, k7⟩
       have hzv : (zeroValue e).run P w = .ok z' w := by simp [zeroValue, typeInfo, hi', hz']
       obtain ⟨l', rfl⟩ : ∃ l', l = l' + 1 := ⟨l - 1, by omega⟩
       simp only [Nat.add_zero] at hst
       simp [Builtin.clear_, run_underlying ht, hzv, k2, k3, hst, undef]
     ·cases h
    ·cases h
   ·cases h
  ·cases h
 ·cases h
end
end Go.Proofs.Ytmheohnbkaoipaa.Vs
end

import Derived.Test.YtfbmhgiokfpgiaaGreatSH3
import Derived.Test.YtfbmhgiokfpgiaaGreatVs9
open Go Go.Proofs Go.Proofs.YtfbmhgiokfpgiaaGreat.Vs
namespace Go.Proofs.YtfbmhgiokfpgiaaGreat.Vs
set_option linter.all false
set_option linter.unusedSimpArgs false
set_option linter.unusedVariables false
/-! what hangs on what -/
theorem zdl {a b c : DtId} (h1 : idLt a b) (h2 : idLt b c) : idLt a c := by unfold idLt at *; omega
theorem zgd (a : DtId) : ¬ idLt a a := by unfold idLt; omega
theorem zhr {a b : DtId} (h : ¬ idLt a b) (hne : a ≠ b) : idLt b a := by
 obtain ⟨r, s⟩ := a; obtain ⟨r', s'⟩ := b
 have : ¬ (r = r' ∧ s = s') := fun e => hne (by rw [e.1, e.2])
 unfold idLt at *
 simp only at *
 omega
abbrev Srt (l : List DtId) : Prop := l.Pairwise idLt
theorem ztp : ∀ (l : List DtId), (∀ (i : Nat) x y, l[i]? = some y → l[i + 1]? = some x → idLt y x) → Srt l
 | [], _ => List.Pairwise.nil
 | [a], _ => List.pairwise_singleton _ _
 | a :: b :: l, h => by
  have ih := ztp (b :: l) fun i x y h1 h2 => h (i + 1) x y (by simpa using h1) (by simpa using h2)
  refine List.pairwise_cons.2 ⟨fun x hx => ?_, ih⟩
  have hab : idLt a b := h 0 b a rfl rfl
  rcases List.mem_cons.1 hx with rfl | hx
  ·exact hab
  ·exact zdl hab ((List.pairwise_cons.1 ih).1 x hx)
theorem zhs (l : List DtId) : IdsP l ↔ (∀ x ∈ l, IdP x) ∧ Srt l := by
 constructor
 ·intro h
  refine ⟨fun x hx => ?_, ztp _ fun i x y hy hx => ?_⟩
  ·obtain ⟨i, hi⟩ := List.getElem?_of_mem hx
   exact (h i x hi).1
  ·exact (h (i + 1) x hx).2 y (by omega) hy
 ·rintro ⟨h1, h2⟩ i x hx
  refine ⟨h1 x (List.mem_of_getElem? hx), fun y hi hy => ?_⟩
  obtain ⟨hk, rfl⟩ := List.getElem?_eq_some_iff.1 hx
  obtain ⟨hj, rfl⟩ := List.getElem?_eq_some_iff.1 hy
  exact List.pairwise_iff_getElem.1 h2 (i - 1) i hj hk (by omega)
theorem ztq : ∀ (a b : List DtId), Srt a → Srt b → (∀ x, x ∈ a ↔ x ∈ b) → a = b
 | [], [], _, _, _ => rfl
 | [], y :: b, _, _, h => absurd ((h y).2 List.mem_cons_self) (by simp)
 | x :: a, [], _, _, h => absurd ((h x).1 List.mem_cons_self) (by simp)
 | x :: a, y :: b, ha, hb, h => by
  obtain ⟨ha1, ha2⟩ := List.pairwise_cons.1 ha
  obtain ⟨hb1, hb2⟩ := List.pairwise_cons.1 hb
  have e : x = y := by
   rcases List.mem_cons.1 ((h x).1 List.mem_cons_self) with e | hx
   ·exact e
   ·rcases List.mem_cons.1 ((h y).2 List.mem_cons_self) with e | hy
    ·exact e.symm
    ·exact absurd (zdl (hb1 x hx) (ha1 y hy)) (zgd _)
  subst e
  congr 1
  refine ztq a b ha2 hb2 fun z => ?_
  constructor
  ·intro hz
   rcases List.mem_cons.1 ((h z).1 (List.mem_cons_of_mem _ hz)) with rfl | hz2
   ·exact absurd (ha1 z hz) (zgd _)
   ·exact hz2
  ·intro hz
   rcases List.mem_cons.1 ((h z).2 (List.mem_cons_of_mem _ hz)) with rfl | hz2
   ·exact absurd (hb1 z hz) (zgd _)
   ·exact hz2
theorem zmo {l : List DtId} (h : Srt l) : l.Nodup := h.imp fun {a b} h e => by subst e; exact zgd _ h
def codeN (x : DtId) : Nat := (x.fRep * 6 + x.fSlot).toNat
theorem zrv {x y : DtId} (hx : IdP x) (hy : IdP y) (h : codeN x = codeN y) : x = y := by
 obtain ⟨r, s⟩ := x; obtain ⟨r', s'⟩ := y
 unfold codeN IdP at *
 simp only at *
 have h1 : r = r' := by omega
 have h2 : s = s' := by omega
 rw [h1, h2]
theorem ztr : ∀ (l m : List Nat), l.Nodup → (∀ x ∈ l, x ∈ m) → l.length ≤ m.length
 | [], m, _, _ => by simp
 | a :: l, m, h, hs => by
  obtain ⟨h1, h2⟩ := List.nodup_cons.1 h
  have ha := hs a List.mem_cons_self
  have := ztr l (m.erase a) h2 fun x hx => (List.mem_erase_of_ne (fun e => h1 (by rw [← e]; exact hx))).2 (hs x (List.mem_cons_of_mem _ hx))
  rw [List.length_erase_of_mem ha] at this
  have hm : 0 < m.length := List.length_pos_of_mem ha
  simp only [List.length_cons]
  omega
theorem zh6 {l : List DtId} (hn : l.Nodup) (hp : ∀ x ∈ l, IdP x) : l.length ≤ 18 := by
 have h1 : (l.map codeN).Nodup := by
  refine List.pairwise_iff_getElem.2 fun i j hi hj hij e => ?_
  simp only [List.length_map] at hi hj
  simp only [List.getElem_map] at e
  exact List.pairwise_iff_getElem.1 hn i j hi hj hij (zrv (hp _ (List.getElem_mem _)) (hp _ (List.getElem_mem _)) e)
 have := ztr (l.map codeN) (List.range' 1 18) h1 fun x hx => by
  obtain ⟨y, hy, rfl⟩ := List.mem_map.1 hx
  have := hp y hy
  rw [List.mem_range'_1]
  unfold codeN IdP at *
  omega
 simpa using this
noncomputable def depsL (l : List DtInst) (id : DtId) : List DtId := if (instAt l id).fStatus = 3 then (instAt l id).fDeps else []
theorem zgp (l : List DtInst) (id : DtId) : (instAt l id ∈ l ∧ (instAt l id).fId = id) ∨ instAt l id = zeroInst id := by
 rcases zp4 l id with ⟨i, hi, -, h⟩ | ⟨-, h⟩
 ·refine .inl ⟨h ▸ List.getElem_mem _, ?_⟩
  unfold instAt at *
  cases hf : l.find? fun x => eqB x.fId id with
  | none =>
   rw [hf] at h
   rfl
  | some x =>
   have := List.find?_some hf
   rw [zbg] at this
   exact this
 ·exact .inr h
theorem zfc {l : List DtInst} (h : InstsP l) {x : DtInst} (hx : x ∈ l) : InstP x := by
 obtain ⟨i, hi⟩ := List.getElem?_of_mem hx
 exact (h i x hi).1
theorem zkd {l : List DtInst} (h : InstsP l) : Srt (l.map (·.fId)) := by
 refine ztp _ fun i x y hy hx => ?_
 rw [List.getElem?_map] at hx hy
 cases h1 : l[i]? with
 | none => rw [h1] at hy; cases hy
 | some a =>
  cases h2 : l[i + 1]? with
  | none => rw [h2] at hx; cases hx
  | some b =>
   rw [h1] at hy; rw [h2] at hx
   cases hx; cases hy
   exact (h (i + 1) b h2).2 a (by omega) h1
theorem zh7 {l : List DtInst} (h : InstsP l) (id : DtId) : IdsP (depsL l id) := by
 unfold depsL
 split
 ·rcases zgp l id with ⟨hm, -⟩ | e
  ·have := zfc h hm
   exact this.2.2.2.2.2.2.2.2.2.2.1
  ·rw [e]; intro i x hx; simp [zeroInst] at hx
 ·intro i x hx; simp at hx
/-- What is reached. -/
inductive Rch (l : List DtInst) (a : DtId) : DtId → Prop
 | base {b : DtId} : b ∈ depsL l a → Rch l a b
 | step {b c : DtId} : Rch l a b → c ∈ depsL l b → Rch l a c
theorem zts {l : List DtInst} (h : InstsP l) {a b : DtId} (hr : Rch l a b) : IdP b := by
 cases hr with
 | base hb => exact ((zhs _).1 (zh7 h a)).1 _ hb
 | step _ hb => exact ((zhs _).1 (zh7 h _)).1 _ hb
theorem tw_imp {α : Type} {p : α → Bool} : ∀ {l : List α} {x : α}, x ∈ l.takeWhile p → p x = true
 | [], _, h => by simp at h
 | a :: l, x, h => by
  rw [List.takeWhile_cons] at h
  split at h
  ·rename_i ha
   rcases List.mem_cons.1 h with rfl | h
   ·exact ha
   ·exact tw_imp h
  ·simp at h
/-- Two rows that rise, as one. -/
noncomputable def dr1 (y : DtId) : List DtId → List DtId
 | [] => []
 | x :: l => bif eqB x y then l else x :: l
theorem zle (y x : DtId) (l : List DtId) : dr1 y (x :: l) = bif eqB x y then l else x :: l := by rw [dr1]
theorem dr1_sub (y : DtId) (l : List DtId) : (dr1 y l).Sublist l := by
 cases l with
 | nil => exact .slnil
 | cons x l =>
  rw [zle]
  cases eqB x y
  ·exact List.Sublist.refl _
  ·exact List.sublist_cons_self _ _
noncomputable def jn (a : List DtId) : List DtId → List DtId
 | [] => a
 | y :: b => a.takeWhile (fun x => decB (idLt x y)) ++ y :: jn (dr1 y (a.dropWhile fun x => decB (idLt x y))) b
theorem jn_lt {x y : DtId} (h : idLt x y) (a b : List DtId) : jn (x :: a) (y :: b) = x :: jn a (y :: b) := by
 have := zcu h
 simp [jn, this]
theorem jn_ge {x y : DtId} (h : ¬ idLt x y) (a b : List DtId) : jn (x :: a) (y :: b) = y :: jn (dr1 y (x :: a)) b := by
 have := zc4 h
 simp [jn, this]
theorem jn_0 (y : DtId) (b : List DtId) : jn [] (y :: b) = y :: jn [] b := by simp [jn, dr1]
theorem jn_n (a : List DtId) : jn a [] = a := by rw [jn]
theorem drop_lt {a : List DtId} (ha : Srt a) (y : DtId) : ∀ x ∈ a.dropWhile (fun x => decB (idLt x y)), ¬ idLt x y := by
 induction a with
 | nil => simp
 | cons z a ih =>
  obtain ⟨h1, h2⟩ := List.pairwise_cons.1 ha
  intro x hx
  rw [List.dropWhile_cons] at hx
  split at hx
  ·exact ih h2 x hx
  ·rename_i hz
   rw [zbc] at hz
   rcases List.mem_cons.1 hx with rfl | hx
   ·exact hz
   ·exact fun hxy => hz (zdl (h1 x hx) hxy)
theorem drop_eq {a : List DtId} (ha : Srt a) (y : DtId) (hy : ∀ x ∈ a, ¬ idLt x y) : (∀ x ∈ dr1 y a, idLt y x) ∧ ∀ x ∈ a, x = y ∨ x ∈ dr1 y a := by
 cases a with
 | nil => simp [dr1]
 | cons z a =>
  obtain ⟨h1, h2⟩ := List.pairwise_cons.1 ha
  rw [zle]
  by_cases e : z = y
  ·subst e
   rw [zb6]
   exact ⟨fun x hx => h1 x hx, fun x hx => List.mem_cons.1 hx⟩
  ·rw [zci e]
   have hz := zhr (hy z List.mem_cons_self) e
   refine ⟨fun x hx => ?_, fun x hx => .inr hx⟩
   rcases List.mem_cons.1 hx with rfl | hx
   ·exact hz
   ·exact zdl hz (h1 x hx)
theorem zp5 : ∀ (b a : List DtId), Srt a → Srt b → Srt (jn a b) ∧ ∀ x, x ∈ jn a b ↔ x ∈ a ∨ x ∈ b
 | [], a, ha, _ => ⟨ha, fun x => by simp [jn]⟩
 | y :: b, a, ha, hb => by
  obtain ⟨hb1, hb2⟩ := List.pairwise_cons.1 hb
  have hd1 := drop_lt ha y
  have hsd : Srt (a.dropWhile fun x => decB (idLt x y)) := ha.sublist (List.dropWhile_sublist _)
  obtain ⟨he1, he2⟩ := drop_eq hsd y hd1
  have hse : Srt (dr1 y (a.dropWhile fun x => decB (idLt x y))) := hsd.sublist (dr1_sub _ _)
  obtain ⟨h1, h2⟩ := zp5 b _ hse hb2
  have ht : ∀ x ∈ a.takeWhile (fun x => decB (idLt x y)), idLt x y := fun x hx => by
   have := tw_imp hx
   rwa [zbc] at this
  have hall : ∀ x ∈ jn (dr1 y (a.dropWhile fun x => decB (idLt x y))) b, idLt y x := fun x hx => by
   rcases (h2 x).1 hx with hx | hx
   ·exact he1 x hx
   ·exact hb1 x hx
  refine ⟨?_, fun x => ?_⟩
  ·rw [jn]
   refine List.pairwise_append.2 ⟨ha.sublist (List.takeWhile_sublist _), List.pairwise_cons.2 ⟨hall, h1⟩, fun u hu v hv => ?_⟩
   rcases List.mem_cons.1 hv with rfl | hv
   ·exact ht u hu
   ·exact zdl (ht u hu) (hall v hv)
  ·rw [jn, List.mem_append, List.mem_cons, h2, List.mem_cons]
   constructor
   ·rintro (hx | rfl | hx | hx)
    ·exact .inl ((List.takeWhile_sublist _).subset hx)
    ·exact .inr (.inl rfl)
    ·exact .inl ((List.dropWhile_sublist _).subset ((dr1_sub _ _).subset hx))
    ·exact .inr (.inr hx)
   ·rintro (hx | rfl | hx)
    ·have := List.takeWhile_append_dropWhile (p := fun x => decB (idLt x y)) (l := a)
     rw [← this, List.mem_append] at hx
     rcases hx with hx | hx
     ·exact .inl hx
     ·rcases he2 x hx with rfl | hx
      ·exact .inr (.inl rfl)
      ·exact .inr (.inr (.inl hx))
    ·exact .inr (.inl rfl)
    ·exact .inr (.inr (.inr hx))
noncomputable def rndL (l : List DtInst) (out : List DtId) : List DtId := out.foldl (fun nx x => jn nx (depsL l x)) out
noncomputable def rchL (l : List DtInst) : Nat → List DtId → List DtId
 | 0, out => out
 | r + 1, out => if (rndL l out).length = out.length then out else rchL l r (rndL l out)
noncomputable def reachL (l : List DtInst) (id : DtId) : List DtId := rchL l 18 (jn [] (depsL l id))
theorem rndL_spec {l : List DtInst} (h : InstsP l) {out : List DtId} (hs : Srt out) : Srt (rndL l out) ∧ ∀ x, x ∈ rndL l out ↔ x ∈ out ∨ ∃ y ∈ out, x ∈ depsL l y := by
 have key : ∀ (ys nx : List DtId), Srt nx → Srt (ys.foldl (fun nx x => jn nx (depsL l x)) nx) ∧ ∀ x, x ∈ ys.foldl (fun nx x => jn nx (depsL l x)) nx ↔ x ∈ nx ∨ ∃ y ∈ ys, x ∈ depsL l y := by
  intro ys
  induction ys with
  | nil => intro nx hn; exact ⟨hn, fun x => by simp⟩
  | cons y ys ih =>
   intro nx hn
   obtain ⟨h1, h2⟩ := zp5 (depsL l y) nx hn ((zhs _).1 (zh7 h y)).2
   obtain ⟨h3, h4⟩ := ih _ h1
   refine ⟨h3, fun x => ?_⟩
   rw [List.foldl_cons, h4, h2]
   simp only [List.mem_cons, exists_eq_or_imp, or_assoc]
 exact key out out hs
theorem sub_eq {a b : List DtId} (ha : Srt a) (hb : Srt b) (h : ∀ x ∈ a, x ∈ b) (hl : b.length = a.length) : a = b := by
 refine ztq a b ha hb fun x => ⟨h x, fun hx => ?_⟩
 refine Classical.byContradiction fun hn => ?_
 have key : ∀ (a b : List DtId), a.Nodup → (∀ x ∈ a, x ∈ b) → a.length ≤ b.length := by
  intro a
  induction a with
  | nil => intro b _ _; simp
  | cons z a ih =>
   intro b hn hs
   obtain ⟨h1, h2⟩ := List.nodup_cons.1 hn
   obtain ⟨s, t, rfl⟩ := List.append_of_mem (hs z List.mem_cons_self)
   have := ih (s ++ t) h2 fun x hx => by
    have := hs x (List.mem_cons_of_mem _ hx)
    simp only [List.mem_append, List.mem_cons] at this ⊢
    rcases this with h | rfl | h
    ·exact .inl h
    ·exact absurd hx h1
    ·exact .inr h
   simp at this ⊢
   omega
 obtain ⟨s, t, rfl⟩ := List.append_of_mem hx
 have := key a (s ++ t) (zmo ha) fun z hz => by
  have := h z hz
  simp only [List.mem_append, List.mem_cons] at this ⊢
  rcases this with h | rfl | h
  ·exact .inl h
  ·exact absurd hz hn
  ·exact .inr h
 simp at this hl
 omega
theorem zdj {l : List DtInst} (h : InstsP l) (id : DtId) : Srt (reachL l id) ∧ ∀ x, x ∈ reachL l id ↔ Rch l id x := by
 have hd0 := (zhs _).1 (zh7 h id)
 have hj := zp5 (depsL l id) [] List.Pairwise.nil hd0.2
 have key : ∀ (r : Nat) (out : List DtId), Srt out → (∀ x ∈ out, Rch l id x) → (∀ x ∈ depsL l id, x ∈ out) → (out = [] ∨ 19 ≤ out.length + r) → 0 < r → Srt (rchL l r out) ∧ (∀ x ∈ rchL l r out, Rch l id x) ∧ (∀ x ∈ depsL l id, x ∈ rchL l r out) ∧ ∀ y ∈ rchL l r out, ∀ x ∈ depsL l y, x ∈ rchL l r out := by
  intro r
  induction r with
  | zero => intro out _ _ _ _ h0; omega
  | succ r ih =>
   intro out hs hR hD hl _
   obtain ⟨h1, h2⟩ := rndL_spec h hs
   rw [rchL]
   split
   ·rename_i he
    have e := sub_eq hs h1 (fun x hx => (h2 x).2 (.inl hx)) he
    refine ⟨hs, hR, hD, fun y hy x hx => ?_⟩
    rw [e]
    exact (h2 x).2 (.inr ⟨y, hy, hx⟩)
   ·rename_i he
    have hle : out.length ≤ (rndL l out).length := by
     have : out.length ≤ (rndL l out).length ∨ (rndL l out).length < out.length := by omega
     rcases this with h | h5
     ·exact h
     ·exfalso
      have hnd := zmo hs
      have := ztr (out.map codeN) ((rndL l out).map codeN) (by
       refine List.pairwise_iff_getElem.2 fun i j hi hj hij e => ?_
       simp only [List.length_map] at hi hj
       simp only [List.getElem_map] at e
       exact List.pairwise_iff_getElem.1 hnd i j hi hj hij (zrv (zts h (hR _ (List.getElem_mem _))) (zts h (hR _ (List.getElem_mem _))) e)) fun x hx => by
        obtain ⟨y, hy, rfl⟩ := List.mem_map.1 hx
        exact List.mem_map_of_mem ((h2 y).2 (.inl hy))
      simp at this
      omega
    have hR2 : ∀ x ∈ rndL l out, Rch l id x := fun x hx => by
     rcases (h2 x).1 hx with hx | ⟨y, hy, hx⟩
     ·exact hR x hx
     ·exact .step (hR y hy) hx
    have h18 := zh6 (zmo h1) fun x hx => zts h (hR2 x hx)
    have hne : out ≠ [] := by
     rintro rfl
     exact he (by simp [rndL])
    have hpos : 0 < out.length := List.length_pos_iff.2 hne
    have hl2 := hl.resolve_left hne
    exact ih _ h1 hR2 (fun x hx => (h2 x).2 (.inl (hD x hx))) (.inr (by omega)) (by omega)
 obtain ⟨k1, k2, k3, k4⟩ := key 18 (jn [] (depsL l id)) hj.1 (fun x hx => by
  rcases (hj.2 x).1 hx with hx | hx
  ·simp at hx
  ·exact .base hx) (fun x hx => (hj.2 x).2 (.inr hx)) (by
  rcases Nat.eq_zero_or_pos (jn [] (depsL l id)).length with h0 | h0
  ·exact .inl (List.length_eq_zero_iff.1 h0)
  ·exact .inr (by omega)) (by omega)
 refine ⟨k1, fun x => ⟨k2 x, fun hr => ?_⟩⟩
 induction hr with
 | base hb => exact k3 _ hb
 | step _ hb ih => exact k4 _ ih _ hb
theorem zrw {l : List DtInst} (h : InstsP l) {i : Nat} (hi : i < l.length) : instAt l l[i].fId = l[i] := by
 refine zkn hi rfl fun j x hj hx e => ?_
 obtain ⟨hk, rfl⟩ := List.getElem?_eq_some_iff.1 hx
 have hs := zkd h
 have := List.pairwise_iff_getElem.1 hs j i (by simpa using hk) (by simpa using hi) hj
 simp only [List.getElem_map] at this
 rw [e] at this
 exact zgd _ this
theorem zp6 {l : List DtInst} (h : InstsP l) (id : DtId) : (cAt l id < 0 ∧ cAt l id = -1 ∧ (instAt l id).fStatus ≠ 3) ∨ ∃ i, ∃ hi : i < l.length, cAt l id = i ∧ l[i].fId = id ∧ l[i].fStatus = 3 ∧ instAt l id = l[i] := by
 unfold cAt idxZ
 cases hf : l.findIdx? (fun x => eqB x.fId id && decide (x.fStatus = 3)) with
 | none =>
  refine .inl ⟨by simp, rfl, fun h3 => ?_⟩
  rw [List.findIdx?_eq_none_iff] at hf
  rcases zgp l id with ⟨hm, he⟩ | e
  ·have := hf _ hm
   rw [he, zb6, h3] at this
   simp at this
  ·rw [e] at h3; simp [zeroInst] at h3
 | some i =>
  obtain ⟨h1, h2, -⟩ := List.findIdx?_eq_some_iff_getElem.1 hf
  rw [Bool.and_eq_true, zbg, decide_eq_true_eq] at h2
  refine .inr ⟨i, h1, rfl, h2.1, h2.2, ?_⟩
  have := zrw h h1
  rwa [h2.1] at this
end Go.Proofs.YtfbmhgiokfpgiaaGreat.Vs

import Derived.Test.YtfbmhgiokfpgiaaGreatSRyV
import Derived.Test.YtfbmhgiokfpgiaaGreatSSrV
open Go Go.Proofs Go.Proofs.YtfbmhgiokfpgiaaGreat.Vs
namespace Go.Proofs.YtfbmhgiokfpgiaaGreat.Vs
set_option linter.all false
set_option linter.unusedSimpArgs false
set_option linter.unusedVariables false
/-! the parts -/
theorem zms {l : List DtInst} {a b c : DtId} (h1 : Rch l a b) (h2 : Rch l b c) : Rch l a c := by
 induction h2 with
 | base h => exact .step h1 h
 | step _ h ih => exact .step ih h
theorem zmt {l : List DtInst} (h : InstsP l) (id : DtId) : RdyP l id ↔ (instAt l id).fStatus = 3 ∧ ∀ x, Rch l id x → (instAt l x).fStatus = 3 := by
 rw [zv6 h]
 have hs := (zdj h id).2
 constructor
 ·intro h1
  have h2 : ∀ x ∈ reachL l id ++ [id], (instAt l x).fStatus = 3 := fun x hx => by
   obtain ⟨k, hk⟩ := List.getElem?_of_mem hx
   exact h1 k x hk
  exact ⟨h2 id (by simp), fun x hx => h2 x (List.mem_append_left _ ((hs x).2 hx))⟩
 ·rintro ⟨h1, h2⟩ j x hx
  rcases List.mem_append.1 (List.mem_of_getElem? hx) with hm | hm
  ·exact h2 x ((hs x).1 hm)
  ·rw [List.mem_singleton] at hm; subst hm; exact h1
theorem rdy_rch {l : List DtInst} (h : InstsP l) {a b : DtId} (ha : RdyP l a) (hab : Rch l a b) : RdyP l b := by
 rw [zmt h] at ha ⊢
 exact ⟨ha.2 b hab, fun x hx => ha.2 x (zms hab hx)⟩
def Same (l : List DtInst) (a b : DtId) : Prop := b = a ∨ (Rch l a b ∧ Rch l b a)
theorem same_rfl (l : List DtInst) (a : DtId) : Same l a a := .inl rfl
theorem same_symm {l : List DtInst} {a b : DtId} (h : Same l a b) : Same l b a := by
 rcases h with rfl | ⟨h1, h2⟩
 ·exact .inl rfl
 ·exact .inr ⟨h2, h1⟩
theorem znx {l : List DtInst} {a b c : DtId} (h : Same l a b) (k : Same l b c) : Same l a c := by
 rcases h with rfl | ⟨h1, h2⟩
 ·exact k
 ·rcases k with rfl | ⟨k1, k2⟩
  ·exact .inr ⟨h1, h2⟩
  ·exact .inr ⟨zms h1 k1, zms k2 h2⟩
theorem zqc {l : List DtInst} (h : InstsP l) {a b : DtId} (ha : RdyP l a) (hab : Same l a b) : RdyP l b := by
 rcases hab with rfl | ⟨h1, -⟩
 ·exact ha
 ·exact rdy_rch h ha h1
noncomputable def seqL (l : List DtInst) (x : DtId) : Int := (instAt l x).fSeq
def sLt (l : List DtInst) (a b : DtId) : Prop := seqL l a < seqL l b ∨ (seqL l a = seqL l b ∧ idLt a b)
theorem zmu (l : List DtInst) (a : DtId) : ¬ sLt l a a := by
 rintro (h | ⟨-, h⟩)
 ·omega
 ·exact zgd _ h
theorem zhb {l : List DtInst} {a b c : DtId} (h1 : sLt l a b) (h2 : sLt l b c) : sLt l a c := by
 rcases h1 with h1 | ⟨h1, k1⟩ <;> rcases h2 with h2 | ⟨h2, k2⟩
 ·exact .inl (by omega)
 ·exact .inl (by omega)
 ·exact .inl (by omega)
 ·exact .inr ⟨by omega, zdl k1 k2⟩
theorem zt0 {l : List DtInst} {a b : DtId} (h : ¬ sLt l a b) (hne : a ≠ b) : sLt l b a := by
 unfold sLt at *
 have h1 : ¬ seqL l a < seqL l b := fun k => h (.inl k)
 by_cases e : seqL l a = seqL l b
 ·exact .inr ⟨e.symm, zhr (fun k => h (.inr ⟨e, k⟩)) hne⟩
 ·exact .inl (by omega)
noncomputable def cmpS (l : List DtInst) (a b : DtId) : Int := bif decide (seqL l a = seqL l b) then cmpI a b else seqL l a - seqL l b
theorem zt1 (l : List DtInst) (a b : DtId) : cmpS l a b < 0 ↔ sLt l a b := by
 unfold cmpS sLt
 by_cases e : seqL l a = seqL l b
 ·rw [decide_eq_true e, cond_true, zbq]
  constructor
  ·exact fun h => .inr ⟨e, h⟩
  ·rintro (h | h)
   ·omega
   ·exact h.2
 ·rw [decide_eq_false e, cond_false]
  constructor
  ·exact fun h => .inl (by omega)
  ·rintro (h | h)
   ·omega
   ·exact absurd h.1 e
theorem pw_ext {lt : DtId → DtId → Prop} (irr : ∀ a, ¬ lt a a) (tr : ∀ {a b c}, lt a b → lt b c → lt a c) : ∀ (a b : List DtId), a.Pairwise lt → b.Pairwise lt → (∀ x, x ∈ a ↔ x ∈ b) → a = b
 | [], [], _, _, _ => rfl
 | [], y :: b, _, _, h => absurd ((h y).2 List.mem_cons_self) (by simp)
 | x :: a, [], _, _, h => absurd ((h x).1 List.mem_cons_self) (by simp)
 | x :: a, y :: b, ha, hb, h => by
  obtain ⟨ha1, ha2⟩ := List.pairwise_cons.1 ha
  obtain ⟨hb1, hb2⟩ := List.pairwise_cons.1 hb
  have e : x = y := by
   rcases List.mem_cons.1 ((h x).1 List.mem_cons_self) with e | hx
   ·exact e
   ·rcases List.mem_cons.1 ((h y).2 List.mem_cons_self) with e | hy
    ·exact e.symm
    ·exact absurd (tr (hb1 x hx) (ha1 y hy)) (irr _)
  subst e
  congr 1
  refine pw_ext irr tr a b ha2 hb2 fun z => ?_
  constructor
  ·intro hz
   rcases List.mem_cons.1 ((h z).1 (List.mem_cons_of_mem _ hz)) with rfl | hz2
   ·exact absurd (ha1 z hz) (irr _)
   ·exact hz2
  ·intro hz
   rcases List.mem_cons.1 ((h z).2 (List.mem_cons_of_mem _ hz)) with rfl | hz2
   ·exact absurd (hb1 z hz) (irr _)
   ·exact hz2
theorem srt_memG {cmp : DtId → DtId → Int} {l : List DtId} (x : DtId) : x ∈ srt cmp l ↔ x ∈ l := List.mem_mergeSort
theorem srt_pwG {cmp : DtId → DtId → Int} {lt : DtId → DtId → Prop} (hc : ∀ a b, cmp a b < 0 ↔ lt a b) (irr : ∀ a, ¬ lt a a) (tr : ∀ {a b c}, lt a b → lt b c → lt a c) (tot : ∀ {a b}, ¬ lt a b → a ≠ b → lt b a) {l : List DtId} (hn : l.Nodup) : (srt cmp l).Pairwise lt := by
 have hl : ∀ a b, ltOf cmp a b = decB (lt a b) := fun a b => by
  rw [Bool.eq_iff_iff, zbc, ← hc]
  unfold ltOf
  simp
 have h1 : (srt cmp l).Pairwise fun a b => (!(ltOf cmp) b a) = true := by
  refine List.pairwise_mergeSort (fun a b c hab hbc => ?_) (fun a b => ?_) l
  ·rw [Bool.not_eq_true', hl, zbb] at hab hbc ⊢
   intro hca
   by_cases e : b = a
   ·subst e; exact hbc hca
   ·exact hbc (tr hca (tot hab e))
  ·rw [Bool.or_eq_true, Bool.not_eq_true', Bool.not_eq_true', hl, hl, zbb, zbb]
   by_cases h : lt b a
   ·exact .inr fun h2 => irr _ (tr h h2)
   ·exact .inl h
 have h2 : (srt cmp l).Nodup := (List.mergeSort_perm _ _).nodup_iff.2 hn
 refine List.Pairwise.imp₂ (fun a b h3 h4 => ?_) h1 h2
 rw [Bool.not_eq_true', hl, zbb] at h3
 exact tot h3 (fun e => h4 e.symm)
noncomputable def out0 (l : List DtInst) (id : DtId) : List DtId := id :: (reachL l id).filter fun d => !(eqB d id) && decB (id ∈ reachL l d)
theorem out0_mem {l : List DtInst} (h : InstsP l) (id x : DtId) : x ∈ out0 l id ↔ Same l id x := by
 unfold out0 Same
 rw [List.mem_cons, List.mem_filter, (zdj h id).2, Bool.and_eq_true, Bool.not_eq_true', zbf, zbc, (zdj h x).2]
 constructor
 ·rintro (h1 | ⟨h1, h2, h3⟩)
  ·exact .inl h1
  ·exact .inr ⟨h1, h3⟩
 ·rintro (h1 | ⟨h1, h3⟩)
  ·exact .inl h1
  ·by_cases e : x = id
   ·exact .inl e
   ·exact .inr ⟨h1, e, h3⟩
theorem out0_nd {l : List DtInst} (h : InstsP l) (id : DtId) : (out0 l id).Nodup := by
 unfold out0
 refine List.nodup_cons.2 ⟨fun hm => ?_, (zmo (zdj h id).1).sublist List.filter_sublist⟩
 rw [List.mem_filter, zb6] at hm
 simp at hm
noncomputable def partL (l : List DtInst) (id : DtId) : List DtId := srt (cmpS l) (out0 l id)
theorem zfm {l : List DtInst} (h : InstsP l) (id x : DtId) : x ∈ partL l id ↔ Same l id x := by
 unfold partL; rw [srt_memG, out0_mem h]
theorem zqd {l : List DtInst} (h : InstsP l) (id : DtId) : (partL l id).Pairwise (sLt l) := srt_pwG (zt1 l) (zmu l) zhb zt0 (out0_nd h id)
theorem zwa {l : List DtInst} (h : InstsP l) {id : DtId} {o : List DtId} (hp : o.Pairwise (sLt l)) (hm : ∀ x, x ∈ o ↔ Same l id x) : o = partL l id :=
 pw_ext (zmu l) zhb _ _ hp (zqd h id) fun x => by rw [hm, zfm h]
theorem zqe {l : List DtInst} (h : InstsP l) {a b : DtId} (hab : Same l a b) : partL l a = partL l b :=
 zwa h (zqd h a) fun x => by
  rw [zfm h]
  exact ⟨znx (same_symm hab), znx hab⟩
theorem zwb {l : List DtInst} (h : InstsP l) (id : DtId) : (partL l id).Nodup := (zqd h id).imp fun {a b} h e => by subst e; exact zmu _ _ h
theorem zxl {l : List DtInst} (h : InstsP l) (id : DtId) : id ∈ partL l id := (zfm h id id).2 (same_rfl l id)
theorem zhc {l : List DtInst} (h : InstsP l) {id : DtId} (hi : IdP id) : (partL l id).length ≤ 18 := by
 refine zh6 (zwb h id) fun x hx => ?_
 rcases (zfm h id x).1 hx with rfl | ⟨h1, -⟩
 ·exact hi
 ·exact zts h h1
theorem zwc {l : List DtInst} (h : InstsP l) {a : DtId} (ha : RdyP l a) : IdP a ∧ ∃ x ∈ l, x.fId = a := by
 have h1 := ((zmt h a).1 ha).1
 rcases zgp l a with ⟨hm, he⟩ | e
 ·have := (zfc h hm).1
  rw [he] at this
  exact ⟨this, _, hm, he⟩
 ·rw [e] at h1; simp [zeroInst] at h1
theorem lid_len {l : List DtInst} (h : InstsP l) : l.length ≤ 18 := by
 have := zh6 (zmo (zkd h)) fun x hx => by
  obtain ⟨y, hy, rfl⟩ := List.mem_map.1 hx
  exact (zfc h hy).1
 simpa using this
def FreeP (l : List DtInst) (p t : List DtId) : Prop := ∀ x ∈ p, ∀ d ∈ depsL l x, d ∈ p ∨ d ∈ t
noncomputable def leftF (l : List DtInst) (acc : List (List DtId)) (x : DtInst) : List (List DtId) := bif decB (RdyP l x.fId) && decB (partL l x.fId ∉ acc) then acc ++ [partL l x.fId] else acc
noncomputable def leftT (l : List DtInst) (i : Nat) : List (List DtId) := (l.take i).foldl (leftF l) []
noncomputable def leftA (l : List DtInst) : List (List DtId) := l.foldl (leftF l) []
theorem zkg (l : List DtInst) : leftT l 0 = [] := by unfold leftT; simp
theorem leftT_s (l : List DtInst) (i : Nat) (h : i < l.length) : leftT l (i + 1) = leftF l (leftT l i) l[i] := by
 unfold leftT
 rw [List.take_succ_eq_append_getElem h, List.foldl_append]
 rfl
theorem leftT_e (l : List DtInst) (i : Nat) (h : l.length ≤ i) : leftT l i = leftA l := by unfold leftT leftA; rw [List.take_of_length_le h]
theorem leftF_inv {l : List DtInst} (h : InstsP l) {acc : List (List DtId)} (x : DtInst) (ha : (∀ p ∈ acc, ∃ a, RdyP l a ∧ p = partL l a) ∧ acc.Nodup) : (∀ p ∈ leftF l acc x, ∃ a, RdyP l a ∧ p = partL l a) ∧ (leftF l acc x).Nodup := by
 unfold leftF
 cases hb : decB (RdyP l x.fId) && decB (partL l x.fId ∉ acc) with
 | false => exact ha
 | true =>
  rw [Bool.and_eq_true, zbc, zbc] at hb
  rw [cond_true]
  refine ⟨fun p hp => ?_, List.nodup_append.2 ⟨ha.2, by simp, fun a ha b hb2 => ?_⟩⟩
  ·rcases List.mem_append.1 hp with hp | hp
   ·exact ha.1 p hp
   ·rw [List.mem_singleton] at hp; exact ⟨_, hb.1, hp⟩
  ·rw [List.mem_singleton] at hb2; rintro rfl; exact hb.2 (hb2 ▸ ha)
theorem zr0 {l : List DtInst} (h : InstsP l) : ∀ (m : List DtInst) (acc : List (List DtId)), ((∀ p ∈ acc, ∃ a, RdyP l a ∧ p = partL l a) ∧ acc.Nodup) → (∀ p ∈ m.foldl (leftF l) acc, ∃ a, RdyP l a ∧ p = partL l a) ∧ (m.foldl (leftF l) acc).Nodup ∧ (m.foldl (leftF l) acc).length ≤ acc.length + m.length
 | [], acc, ha => ⟨ha.1, ha.2, by simp⟩
 | x :: m, acc, ha => by
  have h1 := zr0 h m _ (leftF_inv h x ha)
  have h2 : (leftF l acc x).length ≤ acc.length + 1 := by
   unfold leftF
   cases decB (RdyP l x.fId) && decB (partL l x.fId ∉ acc) <;> simp
  refine ⟨h1.1, h1.2.1, ?_⟩
  have := h1.2.2
  simp only [List.foldl_cons, List.length_cons] at this ⊢
  omega
theorem zjr {l : List DtInst} (h : InstsP l) (i : Nat) : (∀ p ∈ leftT l i, ∃ a, RdyP l a ∧ p = partL l a) ∧ (leftT l i).Nodup ∧ (leftT l i).length ≤ 18 := by
 have h1 := zr0 h (l.take i) [] ⟨by simp, by simp⟩
 refine ⟨h1.1, h1.2.1, ?_⟩
 have h2 := h1.2.2
 have h3 := lid_len h
 rw [List.length_take] at h2
 simp only [List.length_nil] at h2
 unfold leftT
 omega
theorem zhd {l : List DtInst} (h : InstsP l) : (∀ p ∈ leftA l, ∃ a, RdyP l a ∧ p = partL l a) ∧ (leftA l).Nodup ∧ (leftA l).length ≤ 18 := by
 have := zjr h l.length
 rwa [leftT_e l _ (Nat.le_refl _)] at this
theorem zr1 {l : List DtInst} (h : InstsP l) {acc : List (List DtId)} (ha : ∀ p ∈ acc, ∃ a, RdyP l a ∧ p = partL l a) (x : DtId) : (∃ p ∈ acc, x ∈ p) ↔ partL l x ∈ acc := by
 constructor
 ·rintro ⟨p, hp, hx⟩
  obtain ⟨a, -, rfl⟩ := ha p hp
  rw [← zqe h ((zfm h a x).1 hx)]
  exact hp
 ·exact fun hm => ⟨_, hm, zxl h x⟩
theorem flat_iff {l : List DtInst} (h : InstsP l) {acc : List (List DtId)} (ha : ∀ p ∈ acc, ∃ a, RdyP l a ∧ p = partL l a) (x : DtId) : x ∈ acc.flatten ↔ partL l x ∈ acc := by
 rw [List.mem_flatten, ← zr1 h ha]
theorem zny (l : List DtInst) (q : List DtId → Bool) : ∀ (m : List DtInst) (acc : List (List DtId)), (m.foldl (leftF l) acc).find? q = (acc ++ (m.filter fun x => decB (RdyP l x.fId)).map fun x => partL l x.fId).find? q
 | [], acc => by simp
 | x :: m, acc => by
  rw [List.foldl_cons, zny l q m, List.filter_cons]
  unfold leftF
  cases hr : decB (RdyP l x.fId) with
  | false => simp
  | true =>
   simp only [if_true, Bool.true_and, List.map_cons]
   cases hk : decB (partL l x.fId ∉ acc) with
   | true => simp
   | false =>
    rw [zbb, Classical.not_not] at hk
    rw [cond_false, List.find?_append, List.find?_append, List.find?_cons]
    cases hf : acc.find? q with
    | some y => simp
    | none =>
     have := List.find?_eq_none.1 hf _ hk
     have : q (partL l x.fId) = false := by simpa using this
     rw [this]
noncomputable def nextP (l : List DtInst) (out : List (List DtId)) : Option (List DtId) := (leftA l).find? fun p => decB (p ∉ out) && decB (FreeP l p out.flatten)
def OutOk (l : List DtInst) (out : List (List DtId)) : Prop := (∀ p ∈ out, p ∈ leftA l) ∧ out.Nodup
theorem zhe {l : List DtInst} (h : InstsP l) {out : List (List DtId)} (ho : OutOk l out) : ∀ p ∈ out, ∃ a, RdyP l a ∧ p = partL l a := fun p hp => (zhd h).1 p (ho.1 p hp)
def CandP (l : List DtInst) (told : List DtId) (x : DtId) : Prop := x ∉ told ∧ RdyP l x ∧ FreeP l (partL l x) told
theorem nextP_l {l : List DtInst} (h : InstsP l) {out : List (List DtId)} (ho : OutOk l out) : nextP l out = (l.find? fun x => decB (CandP l out.flatten x.fId)).map fun x => partL l x.fId := by
 unfold nextP leftA
 rw [zny, List.nil_append, List.find?_map]
 congr 1
 rw [List.find?_filter]
 congr 1
 funext x
 have hf := flat_iff h (zhe h ho) x.fId
 unfold CandP
 rw [Bool.eq_iff_iff]
 simp only [Function.comp, Bool.and_eq_true, zbc, decide_eq_true_eq, hf]
 exact ⟨fun ⟨h1, h2, h3⟩ => ⟨h2, h1, h3⟩, fun ⟨h2, h1, h3⟩ => ⟨h1, h2, h3⟩⟩
theorem nextP_hit {l : List DtInst} (h : InstsP l) {out : List (List DtId)} (ho : OutOk l out) {i : Nat} (hi : i < l.length) (hpre : ∀ (j : Nat) x, j < i → l[j]? = some x → ¬ CandP l out.flatten x.fId) (hc : CandP l out.flatten l[i].fId) : nextP l out = some (partL l l[i].fId) := by
 rw [nextP_l h ho, show (l.find? fun x => decB (CandP l out.flatten x.fId)) = some l[i] from ?_]
 ·rfl
 rw [List.find?_eq_some_iff_getElem]
 refine ⟨zcu hc, i, hi, rfl, fun j hj => ?_⟩
 rw [Bool.not_eq_true', zbb]
 exact hpre j _ hj (List.getElem?_eq_getElem (by omega))
theorem znz {l : List DtInst} (h : InstsP l) {out : List (List DtId)} (ho : OutOk l out) (hpre : ∀ (j : Nat) x, j < l.length → l[j]? = some x → ¬ CandP l out.flatten x.fId) : nextP l out = none := by
 rw [nextP_l h ho, show (l.find? fun x => decB (CandP l out.flatten x.fId)) = none from ?_]
 ·rfl
 rw [List.find?_eq_none]
 intro x hx
 obtain ⟨j, hj⟩ := List.getElem?_of_mem hx
 rw [zbc]
 exact hpre j x (List.getElem?_eq_some_iff.1 hj).1 hj
noncomputable def leftR (l : List DtInst) (out : List (List DtId)) : List (List DtId) := (leftA l).filter fun p => decB (p ∉ out)
theorem zmv (l : List DtInst) : leftR l [] = leftA l := by
 unfold leftR
 refine List.filter_eq_self.2 fun a _ => zcu (by simp)
theorem leftR_nd {l : List DtInst} (h : InstsP l) (out : List (List DtId)) : (leftR l out).Nodup := (zhd h).2.1.sublist List.filter_sublist
theorem zmw {l : List DtInst} {out : List (List DtId)} {p : List DtId} (hp : p ∈ leftR l out) : p ∈ leftA l ∧ p ∉ out := by
 unfold leftR at hp
 rw [List.mem_filter, zbc] at hp
 exact hp
theorem nd_del : ∀ (L : List (List DtId)) (k : Nat) (hk : k < L.length), L.Nodup → L.filter (fun x => decB (x ≠ L[k])) = L.take k ++ L.drop (k + 1)
 | [], k, hk, _ => by simp at hk
 | a :: L, 0, _, hn => by
  obtain ⟨h1, h2⟩ := List.nodup_cons.1 hn
  simp only [List.getElem_cons_zero, List.take_zero, List.nil_append, List.drop_succ_cons, List.drop_zero]
  rw [List.filter_cons_of_neg (by rw [zbc]; simp)]
  exact List.filter_eq_self.2 fun x hx => zcu fun e => h1 (e ▸ hx)
 | a :: L, k + 1, hk, hn => by
  obtain ⟨h1, h2⟩ := List.nodup_cons.1 hn
  have hk2 : k < L.length := by simpa using hk
  simp only [List.getElem_cons_succ, List.take_succ_cons, List.drop_succ_cons, List.cons_append]
  rw [List.filter_cons_of_pos (p := fun x => decB (x ≠ L[k])) (zcu fun e => h1 (by rw [e]; exact List.getElem_mem _)), nd_del L k hk2 h2]
theorem zr2 {l : List DtInst} (h : InstsP l) {out : List (List DtId)} {k : Nat} (hk : k < (leftR l out).length) : leftR l (out ++ [(leftR l out)[k]]) = (leftR l out).take k ++ (leftR l out).drop (k + 1) := by
 rw [← nd_del _ k hk (leftR_nd h out)]
 generalize hp : (leftR l out)[k] = p
 unfold leftR
 rw [List.filter_filter]
 congr 1
 funext x
 rw [Bool.eq_iff_iff, Bool.and_eq_true, zbc, zbc, zbc, List.mem_append, List.mem_singleton]
 exact ⟨fun h1 => ⟨fun e => h1 (.inr e), fun e => h1 (.inl e)⟩, fun h1 h2 => h2.elim h1.2 h1.1⟩
theorem zqf (l : List DtInst) (out : List (List DtId)) : nextP l out = (leftR l out).find? fun p => decB (FreeP l p out.flatten) := by
 unfold nextP leftR
 rw [List.find?_filter]
 congr 1
 funext p
 simp
theorem nextP_at {l : List DtInst} {out : List (List DtId)} {k : Nat} (hk : k < (leftR l out).length) (hpre : ∀ (j : Nat) x, j < k → (leftR l out)[j]? = some x → decB (FreeP l x out.flatten) = false) (hc : decB (FreeP l (leftR l out)[k] out.flatten) = true) : nextP l out = some (leftR l out)[k] := by
 rw [zqf, List.find?_eq_some_iff_getElem]
 refine ⟨hc, k, hk, rfl, fun j hj => ?_⟩
 rw [Bool.not_eq_true']
 exact hpre j _ hj (List.getElem?_eq_getElem (by omega))
theorem nextP_no {l : List DtInst} {out : List (List DtId)} (hpre : ∀ (j : Nat) x, (leftR l out)[j]? = some x → decB (FreeP l x out.flatten) = false) : nextP l out = none := by
 rw [zqf, List.find?_eq_none]
 intro x hx
 obtain ⟨j, hj⟩ := List.getElem?_of_mem hx
 rw [hpre j x hj]
 simp
theorem zjs (l : List DtInst) (out : List (List DtId)) : (idxZ (fun p => decB (FreeP l p out.flatten)) (leftR l out) < 0 ∧ nextP l out = none) ∨ ∃ k, ∃ hk : k < (leftR l out).length, idxZ (fun p => decB (FreeP l p out.flatten)) (leftR l out) = k ∧ nextP l out = some (leftR l out)[k] := by
 unfold idxZ
 cases hf : (leftR l out).findIdx? (fun p => decB (FreeP l p out.flatten)) with
 | none =>
  rw [List.findIdx?_eq_none_iff] at hf
  exact .inl ⟨by simp, nextP_no fun j x hx => hf x (List.mem_of_getElem? hx)⟩
 | some k =>
  obtain ⟨h1, h2, h3⟩ := List.findIdx?_eq_some_iff_getElem.1 hf
  refine .inr ⟨k, h1, rfl, nextP_at h1 (fun j x hj hx => ?_) h2⟩
  obtain ⟨hk, rfl⟩ := List.getElem?_eq_some_iff.1 hx
  simpa using h3 j hj
noncomputable def goS (l : List DtInst) : Nat → List (List DtId) → List (List DtId)
 | 0, out => out
 | n + 1, out => match nextP l out with
  | none => out
  | some p => goS l n (out ++ [p])
noncomputable def partsL (l : List DtInst) : List (List DtId) := goS l ((leftA l).length + 1) []
def PInv (l : List DtInst) (out : List (List DtId)) : Prop := OutOk l out ∧ goS l ((leftR l out).length + 1) out = partsL l
theorem pinv_0 (l : List DtInst) : PInv l [] := ⟨⟨by simp, by simp⟩, by rw [zmv]; rfl⟩
theorem zr3 {l : List DtInst} {out : List (List DtId)} {p : List DtId} (hn : nextP l out = some p) : ∃ k, ∃ hk : k < (leftR l out).length, (leftR l out)[k] = p := by
 rw [zqf] at hn
 obtain ⟨k, hk, h2⟩ := List.getElem_of_mem (List.mem_of_find?_eq_some hn)
 exact ⟨k, hk, h2⟩
theorem pinv_s {l : List DtInst} (h : InstsP l) {out : List (List DtId)} (hi : PInv l out) {p : List DtId} (hn : nextP l out = some p) : PInv l (out ++ [p]) ∧ (leftR l (out ++ [p])).length + 1 = (leftR l out).length := by
 obtain ⟨k, hk, rfl⟩ := zr3 hn
 have hm := zmw (List.getElem_mem hk)
 have hl : (leftR l (out ++ [(leftR l out)[k]])).length + 1 = (leftR l out).length := by
  rw [zr2 h hk]; simp; omega
 refine ⟨⟨⟨fun q hq => ?_, List.nodup_append.2 ⟨hi.1.2, by simp, fun a ha b hb => ?_⟩⟩, ?_⟩, hl⟩
 ·rcases List.mem_append.1 hq with hq | hq
  ·exact hi.1.1 q hq
  ·rw [List.mem_singleton] at hq; exact hq ▸ hm.1
 ·rw [List.mem_singleton] at hb; rintro rfl; exact hm.2 (hb ▸ ha)
 ·rw [hl, ← hi.2]
  conv => rhs; rw [goS, hn]
theorem zkp {l : List DtInst} {out : List (List DtId)} (hi : PInv l out) (hn : nextP l out = none) : partsL l = out := by
 rw [← hi.2, goS, hn]
theorem zli {l : List DtInst} (h : InstsP l) {out : List (List DtId)} (hi : OutOk l out) : out.length ≤ 18 ∧ (∀ p ∈ out, p.length ≤ 18) ∧ out.flatten.length ≤ 324 := by
 have h1 : out.length ≤ (leftA l).length := by
  have key : ∀ (a b : List (List DtId)), a.Nodup → (∀ x ∈ a, x ∈ b) → a.length ≤ b.length := by
   intro a
   induction a with
   | nil => intro b _ _; simp
   | cons z a ih =>
    intro b hn hs
    obtain ⟨h1, h2⟩ := List.nodup_cons.1 hn
    obtain ⟨s, t, rfl⟩ := List.append_of_mem (hs z List.mem_cons_self)
    have := ih (s ++ t) h2 fun x hx => by
     have := hs x (List.mem_cons_of_mem _ hx)
     simp only [List.mem_append, List.mem_cons] at this ⊢
     rcases this with h | rfl | h
     ·exact .inl h
     ·exact absurd hx h1
     ·exact .inr h
    simp at this ⊢
    omega
  exact key out _ hi.2 hi.1
 have h2 := (zhd h).2.2
 have h3 : ∀ p ∈ out, p.length ≤ 18 := fun p hp => by
  obtain ⟨a, ha, rfl⟩ := zhe h hi p hp
  exact zhc h (zwc h ha).1
 have h4 : ∀ (o : List (List DtId)), (∀ p ∈ o, p.length ≤ 18) → o.flatten.length ≤ 18 * o.length := by
  intro o
  induction o with
  | nil => intro _; simp
  | cons p o ih =>
   intro ho
   have := ih fun q hq => ho q (List.mem_cons_of_mem _ hq)
   have := ho p List.mem_cons_self
   simp only [List.flatten_cons, List.length_append, List.length_cons]
   omega
 have := h4 out h3
 exact ⟨by omega, h3, by omega⟩
theorem zjt {l : List DtInst} (h : InstsP l) : OutOk l (partsL l) := by
 have key : ∀ (n : Nat) (out : List (List DtId)), OutOk l out → OutOk l (goS l n out) := by
  intro n
  induction n with
  | zero => intro out ho; exact ho
  | succ n ih =>
   intro out ho
   rw [goS]
   split
   ·exact ho
   ·rename_i p hp
    refine ih _ ?_
    obtain ⟨k, hk, rfl⟩ := zr3 hp
    have hm := zmw (List.getElem_mem hk)
    refine ⟨fun q hq => ?_, List.nodup_append.2 ⟨ho.2, by simp, fun a ha b hb => ?_⟩⟩
    ·rcases List.mem_append.1 hq with hq | hq
     ·exact ho.1 q hq
     ·rw [List.mem_singleton] at hq; exact hq ▸ hm.1
    ·rw [List.mem_singleton] at hb; rintro rfl; exact hm.2 (hb ▸ ha)
 exact key _ _ ⟨by simp, by simp⟩
theorem zt2 {l : List DtInst} (h : InstsP l) {p : List DtId} (hp : ∃ a, RdyP l a ∧ p = partL l a) : ∀ x ∈ p, RdyP l x ∧ (instAt l x).fStatus = 3 := by
 obtain ⟨a, ha, rfl⟩ := hp
 intro x hx
 have := zqc h ha ((zfm h a x).1 hx)
 exact ⟨this, ((zmt h x).1 this).1⟩
end Go.Proofs.YtfbmhgiokfpgiaaGreat.Vs

import Derived.Test.YtfbmhgiokfpgiaaGreatSGrV
open Go Go.Proofs Go.Proofs.YtfbmhgiokfpgiaaGreat.Vs
namespace Go.Proofs.YtfbmhgiokfpgiaaGreat.Vs
set_option linter.all false
set_option linter.unusedSimpArgs false
set_option linter.unusedVariables false
/-! the search in breadth -/
structure Bf (l : List DtInst) (id : DtId) (c : Option DtId) (ds : List DtId) (off : Nat) (zs out : List DtId) : Prop where
 ho : off ≤ zs.length
 hz : zs.length ≤ out.length + 1
 hn : out.Nodup
 hr : ∀ x ∈ out, Rch l id x
 hq : ∀ x ∈ zs, x = id ∨ x ∈ out
 hp : ∀ x, x = id ∨ x ∈ out → x ∈ zs.drop off ∨ (∀ y ∈ depsL l x, y ∈ out) ∨ c = some x
 hd : ∀ y ∈ ds, y ∈ out
 hc : ∀ x, c = some x → x = id ∨ x ∈ out
theorem bf_0 (l : List DtInst) (id : DtId) : Bf l id none [] 0 [id] [] := by
 refine ⟨by simp, by simp, by simp, by simp, by simp, ?_, by simp, by simp⟩
 rintro x (rfl | h)
 ·simp
 ·simp at h
theorem bf_pop {l : List DtInst} {id : DtId} {off : Nat} {zs out : List DtId} (h : Bf l id none [] off zs out) (ho : off < zs.length) : Bf l id (some zs[off]) [] (off + 1) zs out := by
 refine ⟨ho, h.hz, h.hn, h.hr, h.hq, fun x hx => ?_, by simp, fun x hx => ?_⟩
 ·rcases h.hp x hx with h1 | h1 | h1
  ·rw [List.drop_eq_getElem_cons ho] at h1
   rcases List.mem_cons.1 h1 with rfl | h1
   ·exact .inr (.inr rfl)
   ·exact .inl h1
  ·exact .inr (.inl h1)
  ·cases h1
 ·cases hx
  exact h.hq _ (List.getElem_mem _)
theorem ztu {l : List DtInst} {id c d : DtId} {ds : List DtId} {off : Nat} {zs out : List DtId} (h : Bf l id (some c) ds off zs out) (hd : d ∈ out) : Bf l id (some c) (ds ++ [d]) off zs out :=
 ⟨h.ho, h.hz, h.hn, h.hr, h.hq, h.hp, fun y hy => by
  rcases List.mem_append.1 hy with hy | hy
  ·exact h.hd y hy
  ·rw [List.mem_singleton] at hy; exact hy ▸ hd, h.hc⟩
theorem bf_new {l : List DtInst} {id c d : DtId} {ds : List DtId} {off : Nat} {zs out : List DtId} (h : Bf l id (some c) ds off zs out) (hd : d ∉ out) (hdc : d ∈ depsL l c) (o2 : Nat) (z2 : List DtId) (h1 : o2 ≤ z2.length) (h2 : z2.length ≤ zs.length + 1) (h3 : ∀ x ∈ z2, x ∈ zs ∨ x = d) (h4 : z2.drop o2 = zs.drop off ++ [d]) : Bf l id (some c) (ds ++ [d]) o2 z2 (out ++ [d]) := by
 have hz := h.hz
 have hcx := h.hc c rfl
 refine ⟨h1, by simp; omega, ?_, fun x hx => ?_, fun x hx => ?_, fun x hx => ?_, fun y hy => ?_, fun x hx => ?_⟩
 ·refine List.nodup_append.2 ⟨h.hn, by simp, fun a ha b hb => ?_⟩
  rw [List.mem_singleton] at hb
  rintro rfl
  exact hd (hb ▸ ha)
 ·rcases List.mem_append.1 hx with hx | hx
  ·exact h.hr x hx
  ·rw [List.mem_singleton] at hx
   subst hx
   rcases hcx with rfl | hc
   ·exact .base hdc
   ·exact .step (h.hr _ hc) hdc
 ·rcases h3 x hx with hx | rfl
  ·exact (h.hq x hx).imp (fun h => h) fun h => List.mem_append_left _ h
  ·exact .inr (by simp)
 ·by_cases e : x = d
  ·exact .inl (by rw [h4, e]; simp)
  ·have hx' : x = id ∨ x ∈ out := hx.imp (fun h => h) fun h => (List.mem_append.1 h).elim (fun h => h) fun h => absurd (List.mem_singleton.1 h) e
   rcases h.hp x hx' with h5 | h5 | h5
   ·exact .inl (by rw [h4]; exact List.mem_append_left _ h5)
   ·exact .inr (.inl fun y hy => List.mem_append_left _ (h5 y hy))
   ·exact .inr (.inr h5)
 ·rcases List.mem_append.1 hy with hy | hy
  ·exact List.mem_append_left _ (h.hd y hy)
  ·exact List.mem_append_right _ hy
 ·exact (h.hc x hx).imp (fun h => h) fun h => List.mem_append_left _ h
theorem ztv {l : List DtInst} {id c d : DtId} {ds : List DtId} {off : Nat} {zs out : List DtId} (h : Bf l id (some c) ds off zs out) (hd : d ∉ out) (hdc : d ∈ depsL l c) : Bf l id (some c) (ds ++ [d]) off (zs ++ [d]) (out ++ [d]) :=
 bf_new h hd hdc off (zs ++ [d]) (by have := h.ho; simp; omega) (by simp) (fun x hx => by simpa using hx) (by rw [List.drop_append_of_le_length h.ho])
theorem ztw {l : List DtInst} {id c d : DtId} {ds : List DtId} {off : Nat} {zs out : List DtId} (h : Bf l id (some c) ds off zs out) (hd : d ∉ out) (hdc : d ∈ depsL l c) : Bf l id (some c) (ds ++ [d]) 0 (zs.drop off ++ [d]) (out ++ [d]) :=
 bf_new h hd hdc 0 (zs.drop off ++ [d]) (by simp) (by simp) (fun x hx => by
  rcases List.mem_append.1 hx with hx | hx
  ·exact .inl (List.mem_of_mem_drop hx)
  ·exact .inr (List.mem_singleton.1 hx)) (by simp)
theorem zv5 {l : List DtInst} {id c : DtId} {ds : List DtId} {off : Nat} {zs out : List DtId} (h : Bf l id (some c) ds off zs out) (hd : depsL l c = ds) : Bf l id none [] off zs out :=
 ⟨h.ho, h.hz, h.hn, h.hr, h.hq, fun x hx => by
  rcases h.hp x hx with h1 | h1 | h1
  ·exact .inl h1
  ·exact .inr (.inl h1)
  ·cases h1
   exact .inr (.inl fun y hy => h.hd y (hd ▸ hy)), by simp, by simp⟩
theorem bf_end {l : List DtInst} {id : DtId} {off : Nat} {zs out : List DtId} (h : Bf l id none [] off zs out) (ho : zs.length ≤ off) : ∀ x, x ∈ out ↔ Rch l id x := by
 have hp : ∀ x, x = id ∨ x ∈ out → ∀ y ∈ depsL l x, y ∈ out := fun x hx => by
  rcases h.hp x hx with h1 | h1 | h1
  ·rw [List.drop_of_length_le ho] at h1; simp at h1
  ·exact h1
  ·cases h1
 refine fun x => ⟨h.hr x, fun hr => ?_⟩
 induction hr with
 | base hb => exact hp _ (.inl rfl) _ hb
 | step _ hb ih => exact hp _ (.inr ih) _ hb
theorem zko {l : List DtInst} (hp : InstsP l) {id : DtId} {c : Option DtId} {ds : List DtId} {off : Nat} {zs out : List DtId} (h : Bf l id c ds off zs out) : out.length ≤ 18 :=
 zh6 h.hn fun x hx => zts hp (h.hr x hx)
end Go.Proofs.YtfbmhgiokfpgiaaGreat.Vs

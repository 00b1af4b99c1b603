import Derived.Test.YtfbmhgiokfpgiaaGreatSPhQ
open Go Go.Proofs Go.Proofs.YtfbmhgiokfpgiaaGreat.Vs
namespace Go.Proofs.YtfbmhgiokfpgiaaGreat.Vs
set_option linter.all false
set_option linter.unusedSimpArgs false
set_option linter.unusedVariables false
/-! what the order keeps -/
theorem ordR_nd (l : List DtInst) : (ordR l).Nodup := by
 unfold ordR
 by_cases h : InstsP l
 ·rw [zhu h]
  have ho := zjt h
  have hr := zhe h ho
  refine List.pairwise_flatten.2 ⟨fun p hp => ?_, ?_⟩
  ·obtain ⟨a, -, rfl⟩ := hr p hp
   exact zwb h a
  ·refine List.Pairwise.imp_of_mem (fun {p q} hp hq hne x hx y hy e => ?_) ho.2
   subst e
   obtain ⟨a, -, rfl⟩ := hr p hp
   obtain ⟨b, -, rfl⟩ := hr q hq
   refine hne ?_
   rw [zqe h ((zfm h a x).1 hx), zqe h ((zfm h b x).1 hy)]
 ·rw [zhv h]; simp
theorem ordR_rdy {l : List DtInst} {x : DtId} (hx : x ∈ ordR l) : InstsP l ∧ RdyP l x := by
 unfold ordR at hx
 by_cases h : InstsP l
 ·rw [zhu h, List.mem_flatten] at hx
  obtain ⟨p, hp, hx⟩ := hx
  exact ⟨h, (zt2 h (zhe h (zjt h) p hp) x hx).1⟩
 ·rw [zhv h] at hx; simp at hx
theorem szS_sub {α : Type} {f : α → Int} (hf : ∀ x, 0 ≤ f x) : ∀ (m l : List α), m.Nodup → (∀ x ∈ m, x ∈ l) → szS f m ≤ szS f l
 | [], l, _, _ => by have := zgn hf l; simpa [szS, zdy] using this
 | x :: m, l, hn, hs => by
  obtain ⟨h1, h2⟩ := List.nodup_cons.1 hn
  obtain ⟨s, t, rfl⟩ := List.append_of_mem (hs x List.mem_cons_self)
  have ih := szS_sub hf m (s ++ t) h2 fun y hy => by
   have := hs y (List.mem_cons_of_mem _ hy)
   simp only [List.mem_append, List.mem_cons] at this ⊢
   rcases this with h | rfl | h
   ·exact .inl h
   ·exact absurd hy h1
   ·exact .inr h
  have e : ∀ (s t : List α), sumZ f (s ++ x :: t) = sumZ f (s ++ t) + f x := by
   intro s
   induction s with
   | nil => intro t; rw [List.nil_append, List.nil_append, zc9]; omega
   | cons y s ih => intro t; rw [List.cons_append, List.cons_append, zc9, zc9, ih]; omega
  unfold szS at *
  rw [e s t, zc9]
  simp only [List.length_append, List.length_cons] at *
  omega
theorem zn5 {α β : Type} {f : α → Int} {g : β → Int} (c : α → β) (h : ∀ x, g (c x) ≤ f x) : ∀ l : List α, szS g (l.map c) ≤ szS f l
 | [] => by simp [szS, zdy]
 | x :: l => by
  have ih := zn5 c h l
  have := h x
  unfold szS at *
  rw [List.map_cons, zc9, zc9]
  simp only [List.length_cons, List.length_map] at *
  omega
theorem zn6 {α : Type} {f : α → Int} (hf : ∀ x, 0 ≤ f x) (p : α → Bool) : ∀ l : List α, szS f (l.filter p) ≤ szS f l
 | [] => by simp
 | x :: l => by
  have ih := zn6 hf p l
  have := hf x
  rw [List.filter_cons]
  split
  ·unfold szS at *
   rw [zc9, zc9]
   simp only [List.length_cons] at *
   omega
  ·unfold szS at *
   rw [zc9]
   simp only [List.length_cons] at *
   omega
theorem zmx {l : List DtInst} {x : DtId} (hx : x ∈ ordR l) : instAt l x ∈ l ∧ (instAt l x).fId = x := by
 obtain ⟨h, hr⟩ := ordR_rdy hx
 have h1 := ((zmt h x).1 hr).1
 rcases zgp l x with hh | e
 ·exact hh
 ·rw [e] at h1; simp [zeroInst] at h1
theorem ordR_cmds (l : List DtInst) (p : DtCmd → Bool) : szS DtCmd.sz (((ordR l).map fun x => (instAt l x).fCmd).filter p) ≤ szS DtInst.sz l := by
 refine Int.le_trans (zn6 DtCmd.sz_nonneg p _) ?_
 rw [show (ordR l).map (fun x => (instAt l x).fCmd) = ((ordR l).map fun x => instAt l x).map (fun y => y.fCmd) by rw [List.map_map]; rfl]
 refine Int.le_trans (zn5 (f := DtInst.sz) (fun y => y.fCmd) (fun y => by unfold DtInst.sz; omega) _) ?_
 refine szS_sub DtInst.sz_nonneg _ _ ?_ fun y hy => ?_
 ·rw [List.nodup_iff_pairwise_ne, List.pairwise_map]
  refine List.Pairwise.imp_of_mem (fun {a b} ha hb hne e => hne ?_) (ordR_nd l)
  rw [← (zmx ha).2, ← (zmx hb).2, e]
 ·obtain ⟨x, hx, rfl⟩ := List.mem_map.1 hy
  exact (zmx hx).1
end Go.Proofs.YtfbmhgiokfpgiaaGreat.Vs

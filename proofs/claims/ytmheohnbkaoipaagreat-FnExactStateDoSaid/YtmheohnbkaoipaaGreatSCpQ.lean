import Derived.Test.YtmheohnbkaoipaaGreatSSoQ
open Go Go.Proofs Go.Proofs.YtmheohnbkaoipaaGreat.Vs
namespace Go.Proofs.YtmheohnbkaoipaaGreat.Vs
set_option linter.all false
set_option linter.unusedSimpArgs false
set_option linter.unusedVariables false
/-! a command leaves a catalog valid -/
theorem zku : ∀ (x y z : List UInt8), Op.bytesLess x y = true → Op.bytesLess y z = true → Op.bytesLess x z = true
 | [], [], _, h, _ => by simp [Op.bytesLess] at h
 | [], _ :: _, [], _, h => by simp [Op.bytesLess] at h
 | [], _ :: _, _ :: _, _, _ => by simp [Op.bytesLess]
 | _ :: _, [], _, h, _ => by simp [Op.bytesLess] at h
 | _ :: _, _ :: _, [], _, h => by simp [Op.bytesLess] at h
 | a :: x, b :: y, c :: z, h1, h2 => by
  simp only [Op.bytesLess, Bool.or_eq_true, Bool.and_eq_true, decide_eq_true_eq, beq_iff_eq] at h1 h2 ⊢
  rcases h1 with h1 | ⟨rfl, h1⟩
  ·rcases h2 with h2 | ⟨rfl, h2⟩
   ·exact .inl (UInt8.lt_trans h1 h2)
   ·exact .inl h1
  ·rcases h2 with h2 | ⟨rfl, h2⟩
   ·exact .inl h2
   ·exact .inr ⟨rfl, zku x y z h1 h2⟩
theorem bl_tot : ∀ (x y : List UInt8), Op.bytesLess x y = false → x ≠ y → Op.bytesLess y x = true
 | [], [], _, h => (h rfl).elim
 | [], _ :: _, h, _ => by simp [Op.bytesLess] at h
 | _ :: _, [], _, _ => by simp [Op.bytesLess]
 | a :: x, b :: y, h, hne => by
  simp only [Op.bytesLess, Bool.or_eq_false_iff, decide_eq_false_iff_not, Bool.and_eq_false_iff, beq_eq_false_iff_ne] at h
  simp only [Op.bytesLess, Bool.or_eq_true, Bool.and_eq_true, decide_eq_true_eq, beq_iff_eq]
  by_cases e : a = b
  ·subst e
   refine .inr ⟨rfl, bl_tot x y (h.2.resolve_left (fun h => h rfl)) fun e => hne (by rw [e])⟩
  ·refine .inl ?_
   have := h.1
   rw [UInt8.lt_iff_toNat_lt] at this ⊢
   have hn : a.toNat ≠ b.toNat := fun hh => e (UInt8.toNat_inj.1 hh)
   omega
theorem zvp : ∀ (l : List DtCSnap), (l.map (·.fName)).Nodup → ∀ (k : Nat) p, l[k]? = some p → findN l p.fName = k := by
 intro l hnd k p hp
 obtain ⟨hk, rfl⟩ := List.getElem?_eq_some_iff.1 hp
 unfold findN
 refine zc1 hk (by rw [zbf]) fun j x hj hx => ?_
 obtain ⟨hj2, rfl⟩ := List.getElem?_eq_some_iff.1 hx
 rw [zbd]
 intro e
 have := List.pairwise_iff_getElem.1 hnd j k (by simpa using hj2) (by simpa using hk) hj
 simp only [List.getElem_map] at this
 exact this e
theorem nd_findN (l : List DtCSnap) (h : ∀ (k : Nat) p, l[k]? = some p → findN l p.fName = k) : (l.map (·.fName)).Nodup := by
 refine List.pairwise_iff_getElem.2 fun j k hj hk hjk e => ?_
 simp only [List.length_map] at hj hk
 simp only [List.getElem_map] at e
 have h1 := h j _ (List.getElem?_eq_getElem hj)
 have h2 := h k _ (List.getElem?_eq_getElem hk)
 rw [e, h2] at h1
 omega
def SetN (s : DtCSet) : Prop := Word s.fName ∧ s.fSnaps.length ≤ 5 ∧ (∀ p ∈ s.fSnaps, SnapP p) ∧ (s.fSnaps.map (·.fName)).Nodup
theorem zvq (s : DtCSet) : SetP s ↔ SetN s := by
 constructor
 ·rintro ⟨h1, h2, h3⟩
  refine ⟨h1, h2, fun p hp => ?_, nd_findN _ fun k p h => (h3 k p h).2⟩
  obtain ⟨k, hk⟩ := List.getElem?_of_mem hp
  exact (h3 k p hk).1
 ·rintro ⟨h1, h2, h3, h4⟩
  exact ⟨h1, h2, fun k p h => ⟨h3 p (List.mem_of_getElem? h), zvp _ h4 k p h⟩⟩
abbrev lessS (s t : DtCSet) : Prop := Op.bytesLess s.fName t.fName = true
def CatN (l : List DtCSet) : Prop := l.length ≤ 5 ∧ (∀ s ∈ l, SetN s) ∧ l.Pairwise lessS
theorem zrk : ∀ (l : List DtCSet), (∀ (i : Nat) s t, l[i]? = some t → l[i + 1]? = some s → lessS t s) → l.Pairwise lessS
 | [], _ => List.Pairwise.nil
 | [a], _ => List.pairwise_singleton _ _
 | a :: b :: l, h => by
  have ih := zrk (b :: l) fun i s t h1 h2 => h (i + 1) s t (by simpa using h1) (by simpa using h2)
  refine List.pairwise_cons.2 ⟨fun x hx => ?_, ih⟩
  have hab : lessS a b := h 0 b a rfl rfl
  rcases List.mem_cons.1 hx with rfl | hx
  ·exact hab
  ·exact zku _ _ _ hab ((List.pairwise_cons.1 ih).1 x hx)
theorem zpr (c : DtCatalog) : CatP c ↔ CatN c.fSets := by
 constructor
 ·rintro ⟨h1, h2⟩
  refine ⟨h1, fun s hs => ?_, zrk _ fun i s t ht hs => ?_⟩
  ·obtain ⟨k, hk⟩ := List.getElem?_of_mem hs
   exact (zvq s).1 (h2 k s hk).1
  ·exact (h2 (i + 1) s hs).2 t (by omega) ht
 ·rintro ⟨h1, h2, h3⟩
  refine ⟨h1, fun i s hs => ⟨(zvq s).2 (h2 s (List.mem_of_getElem? hs)), fun t hi ht => ?_⟩⟩
  obtain ⟨hk, rfl⟩ := List.getElem?_eq_some_iff.1 hs
  obtain ⟨hj, rfl⟩ := List.getElem?_eq_some_iff.1 ht
  exact List.pairwise_iff_getElem.1 h3 (i - 1) i hj hk (by omega)
theorem zrl (n : List UInt8) : ∀ (l : List DtCSet), ∀ s ∈ l.take (lessN l n), Op.bytesLess s.fName n = true
 | [], s, h => by simp at h
 | a :: l, s, h => by
  by_cases e : Op.bytesLess a.fName n = true
  ·simp only [lessN, e, if_true, List.take_succ_cons, List.mem_cons] at h
   rcases h with rfl | h
   ·exact e
   ·exact zrl n l s h
  ·simp only [lessN, e, if_false, List.take_zero] at h; cases h
theorem zrm (n : List UInt8) : ∀ (l : List DtCSet), l.Pairwise lessS → (∀ s ∈ l, s.fName ≠ n) → ∀ s ∈ l.drop (lessN l n), Op.bytesLess n s.fName = true
 | [], _, _, s, h => by simp at h
 | a :: l, hp, hne, s, h => by
  by_cases e : Op.bytesLess a.fName n = true
  ·simp only [lessN, e, if_true, List.drop_succ_cons] at h
   exact zrm n l (List.pairwise_cons.1 hp).2 (fun s hs => hne s (List.mem_cons_of_mem _ hs)) s h
  ·simp only [lessN, e, if_false, List.drop_zero] at h
   have ha := bl_tot a.fName n (by simpa using e) (hne a List.mem_cons_self)
   rcases List.mem_cons.1 h with rfl | h
   ·exact ha
   ·exact zku _ _ _ ha ((List.pairwise_cons.1 hp).1 s h)
theorem creN {l : List DtCSet} (h : CatN l) (n : List UInt8) (hn : Word n) : CatN (creS l n) := by
 by_cases h1 : 0 ≤ findS l n
 ·rw [(zrg h1).1]; exact h
 ·by_cases h2 : (l.length : Int) = 5
  ·rw [(zrh (by omega) h2).1]; exact h
  ·rw [(zri (by omega) h2).1]
   obtain ⟨g1, g2, g3⟩ := h
   have hne : ∀ s ∈ l, s.fName ≠ n := fun s hs => by
    obtain ⟨k, hk, rfl⟩ := List.getElem_of_mem hs
    exact zvo (by omega) k hk
   have hll := lessN_le l n
   refine ⟨by simp; omega, fun s hs => ?_, ?_⟩
   ·rcases List.mem_append.1 hs with hs | hs
    ·exact g2 s (List.mem_of_mem_take hs)
    ·rcases List.mem_cons.1 hs with rfl | hs
     ·exact ⟨hn, by simp, by simp, by simp⟩
     ·exact g2 s (List.mem_of_mem_drop hs)
   ·have ht := zrl n l
    have hd := zrm n l g3 hne
    refine List.pairwise_append.2 ⟨g3.sublist (List.take_sublist _ _), List.pairwise_cons.2 ⟨fun s hs => hd s hs, g3.sublist (List.drop_sublist _ _)⟩, fun a ha b hb => ?_⟩
    rcases List.mem_cons.1 hb with rfl | hb
    ·exact ht a ha
    ·exact zku _ _ _ (ht a ha) (hd b hb)
theorem zps {l : List DtCSet} (h : CatN l) {k : Nat} (hk : k < l.length) {x : DtCSet} (hx : SetN x) (hn : x.fName = l[k].fName) : CatN (l.set k x) := by
 obtain ⟨g1, g2, g3⟩ := h
 refine ⟨by simpa using g1, fun s hs => ?_, ?_⟩
 ·rcases List.mem_or_eq_of_mem_set hs with hs | rfl
  ·exact g2 s hs
  ·exact hx
 ·have key : ∀ l : List DtCSet, l.Pairwise lessS ↔ (l.map (·.fName)).Pairwise fun a b => Op.bytesLess a b = true := fun l => by rw [List.pairwise_map]
  rw [key] at g3 ⊢
  have e : (l.set k x).map (·.fName) = l.map (·.fName) := by
   rw [List.map_set, hn]
   have : (l.map (·.fName))[k]'(by simpa using hk) = l[k].fName := by simp
   rw [← this, List.set_getElem_self]
  rw [e]; exact g3
theorem setN_com {s : DtCSet} (h : SetN s) {m : DtCmd} (hw : Word m.fName) (hc : 1 ≤ m.fChunks.length ∧ m.fChunks.length ≤ 4 ∧ Ch8 m.fChunks) : SetN (comS s m) ∧ (comS s m).fName = s.fName := by
 by_cases h1 : 0 ≤ findN s.fSnaps m.fName
 ·rw [(com_e h1).1]; exact ⟨h, rfl⟩
 ·by_cases h2 : (s.fSnaps.length : Int) = 5
  ·rw [(com_f (by omega) h2).1]; exact ⟨h, rfl⟩
  ·rw [(com_k (by omega) h2).1]
   obtain ⟨g1, g2, g3, g4⟩ := h
   refine ⟨⟨g1, by simp; omega, fun p hp => ?_, ?_⟩, rfl⟩
   ·rcases List.mem_append.1 hp with hp | hp
    ·exact g3 p hp
    ·rw [List.mem_singleton] at hp
     subst hp
     exact ⟨hw, .inl rfl, hc.1, hc.2.1, hc.2.2⟩
   ·rw [List.map_append, List.nodup_append]
    refine ⟨g4, by simp, fun a ha b hb => ?_⟩
    simp only [List.map_cons, List.map_nil, List.mem_singleton] at hb
    subst hb
    rintro rfl
    obtain ⟨p, hp, e⟩ := List.mem_map.1 ha
    obtain ⟨k, hk, rfl⟩ := List.getElem_of_mem hp
    have := zvp _ g4 k _ (List.getElem?_eq_getElem hk)
    rw [e] at this
    omega
theorem setN_tag {s : DtCSet} (h : SetN s) {m : DtCmd} (hw : Word m.fTag) : SetN (tagS s m) ∧ (tagS s m).fName = s.fName := by
 by_cases h1 : 0 ≤ findN s.fSnaps m.fName
 ·have hj := zl3 (fun p => eqB p.fName m.fName) s.fSnaps (by have := h1; unfold findN at this; omega)
  change (findN s.fSnaps m.fName).toNat < s.fSnaps.length at hj
  rw [(tag_k h1 hj).1]
  obtain ⟨g1, g2, g3, g4⟩ := h
  refine ⟨⟨g1, by simpa using g2, fun p hp => ?_, ?_⟩, rfl⟩
  ·rcases List.mem_or_eq_of_mem_set hp with hp | rfl
   ·exact g3 p hp
   ·have := g3 _ (List.getElem_mem hj)
    exact ⟨this.1, .inr hw, this.2.2⟩
  ·have e : (s.fSnaps.set (findN s.fSnaps m.fName).toNat { s.fSnaps[(findN s.fSnaps m.fName).toNat] with fTag := m.fTag }).map (·.fName) = s.fSnaps.map (·.fName) := by
    rw [List.map_set]
    have : (s.fSnaps.map (·.fName))[(findN s.fSnaps m.fName).toNat]'(by simpa using hj) = s.fSnaps[(findN s.fSnaps m.fName).toNat].fName := by simp
    simp only [← this]
    rw [List.set_getElem_self]
   show (List.map (·.fName) (s.fSnaps.set _ _)).Nodup
   rw [e]; exact g4
 ·rw [(tag_n (by omega)).1]; exact ⟨h, rfl⟩
theorem setN_pru {s : DtCSet} (h : SetN s) (n : Int) : SetN (pruS s n) ∧ (pruS s n).fName = s.fName := by
 obtain ⟨g1, g2, g3, g4⟩ := h
 have hs : (pruS s n).fSnaps.Sublist s.fSnaps := zpi _ _ _
 exact ⟨⟨g1, Nat.le_trans hs.length_le g2, fun p hp => g3 p (hs.subset hp), g4.sublist (hs.map _)⟩, rfl⟩
theorem catN_step {c : DtCatalog} (h : CatP c) (m : DtCmd) : CatN (catS c m) := by
 have hN := (zpr c).1 h
 by_cases hm : CmdP m
 ·by_cases h0 : m.fKind = 0
  ·rw [(zpn h hm h0).1]; exact hN
  ·obtain ⟨-, k7, -, -, -, -, w1, -, w2, -, w3, -, -, w4, -⟩ := hm.resolve_left fun hh => h0 hh.1
   by_cases h1 : m.fKind = 1
   ·rw [(zpo h hm h1).1]
    exact creN hN _ (w1 (by omega))
   ·by_cases h7 : m.fKind = 7
    ·rw [(zpp h hm h7).1]; exact hN
    ·by_cases hf : findS c.fSets m.fSet < 0
     ·rw [(zpq h hm h0 h1 h7 hf).1]; exact hN
     ·obtain ⟨k, hkz⟩ := Int.eq_ofNat_of_zero_le (Int.not_lt.1 hf)
      have hk := zkt hkz
      rw [(cat_k h hm h0 h1 h7 hkz).1]
      have hs := hN.2.1 _ (List.getElem_mem hk)
      by_cases h2 : m.fKind = 2
      ·rw [(set_2 h2).1]
       have hsub := ztc c.fSets k
       exact ⟨Nat.le_trans hsub.length_le hN.1, fun s hs => hN.2.1 s (hsub.subset hs), hN.2.2.sublist hsub⟩
      ·by_cases h3 : m.fKind = 3
       ·rw [(zwz hk h3).1]
        have := setN_com hs (w2 (.inl h3)) (w4 h3)
        exact zps hN hk this.1 this.2
       ·by_cases h4 : m.fKind = 4
        ·rw [(set_4 hk h4).1]
         have := setN_tag hs (w3 h4)
         exact zps hN hk this.1 this.2
        ·by_cases h5 : m.fKind = 5
         ·rw [(set_5 hk h5).1]
          have := setN_pru hs m.fN
          exact zps hN hk this.1 this.2
         ·rw [(set_6 hk h2 h3 h4 h5).1]; exact hN
 ·rw [(zpm h hm).1]; exact hN
theorem catP_nil : CatP { fSets := [] } := ⟨by simp, by simp⟩
/-- The catalog behind a command. -/
noncomputable def catC (c : DtCatalog) (m : DtCmd) : DtCatalog := { fSets := catS c m }
theorem catP_step (c : DtCatalog) (m : DtCmd) : CatP (catC c m) := by
 by_cases h : CatP c
 ·exact (zpr _).2 (catN_step h m)
 ·unfold catC; rw [(zpl h).1]; exact catP_nil
theorem zpt {α : Type} {f : α → Int} (B : Int) : ∀ (l : List α), (∀ x ∈ l, f x ≤ B) → sumZ f l ≤ l.length * B
 | [], _ => by simp [zdc]
 | a :: l, h => by
  have h1 := h a List.mem_cons_self
  have h2 := zpt B l fun x hx => h x (List.mem_cons_of_mem _ hx)
  rw [zde, List.length_cons]
  have : ((l.length + 1 : Nat) : Int) * B = (l.length : Int) * B + B := by rw [Int.natCast_add, Int.add_mul]; simp
  omega
theorem catP_sz {c : DtCatalog} (h : CatP c) : DtCatalog.sz c ≤ 5000 := by
 obtain ⟨h1, h2, -⟩ := (zpr c).1 h
 have hp : ∀ p, SnapP p → DtCSnap.sz p ≤ 60 := by
  rintro p ⟨a1, a2, a3, a4, a5⟩
  have b1 : p.fTag.length ≤ 8 := by rcases a2 with a2 | a2 <;> first | exact a2.2.1 | simp [a2]
  have b2 : sumZ lenZ p.fChunks ≤ p.fChunks.length * 8 := zpt 8 _ fun x hx => by
   obtain ⟨k, hk⟩ := List.getElem?_of_mem hx
   have := a5 k x hk
   unfold lenZ; omega
  have := a1.2.1
  unfold DtCSnap.sz szS
  omega
 have hs : ∀ s ∈ c.fSets, DtCSet.sz s ≤ 400 := by
  intro s hs
  obtain ⟨a1, a2, a3, -⟩ := h2 s hs
  have b2 := zpt 60 s.fSnaps fun p hp' => hp p (a3 p hp')
  have := a1.2.1
  unfold DtCSet.sz szS
  omega
 have b := zpt 400 c.fSets hs
 unfold DtCatalog.sz szS
 omega
end Go.Proofs.YtmheohnbkaoipaaGreat.Vs

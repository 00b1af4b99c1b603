import Derived.Test.YtmheohnbkaoipaaVs1
import Derived.Laws.AppendOwn
import Derived.Laws.BytesArg
section
namespace Go.Proofs.Ytmheohnbkaoipaa.Vs
set_option linter.all false
open Go.RowKit
variable {P : Program}
theorem znv {α : Type} (l : List α) : ∀ (n j : Nat), ((List.replicate n l).flatten)[j]? = if j < n * l.length then l[j % l.length]? else none
 | 0, j => by simp
 | n + 1, j => by
  rw [List.replicate_succ, List.flatten_cons]
  by_cases h : j < l.length
  ·rw [List.getElem?_append_left h, if_pos (by rw [Nat.add_mul]; omega), Nat.mod_eq_of_lt h]
  ·rw [List.getElem?_append_right (by omega), znv l n]
   have h1 : (j - l.length) % l.length = j % l.length := by rw [← Nat.mod_eq_sub_mod (by omega)]
   rw [h1, Nat.add_mul]
   by_cases h2 : j - l.length < n * l.length
   ·rw [if_pos h2, if_pos (by omega)]
   ·rw [if_neg h2, if_neg (by omega)]
theorem zhs (z : Array Value) (n j : Nat) (hj : j < n * z.size) : ((Array.range (n * z.size)).map (z[· % z.size]!))[j]? = z[j % z.size]? := by
 have hz : 0 < z.size := by
  rcases Nat.eq_zero_or_pos z.size with h | h
  ·rw [h] at hj; simp at hj
  ·exact h
 have hm : j % z.size < z.size := Nat.mod_lt _ hz
 simp [hj, hm]
theorem RIs_cv {w : World} {I : Nat → Prop} (v : Value) (h : v.oneCell' = true) : RI w I (cv v) v := by
 cases v <;> first | (simp [cv, RI, Value.oneCell']; done) | (simp [Value.oneCell'] at h)
theorem zgd (sz : Nat) : ∀ (n : Nat) (cs : List AV), (chunks sz n cs).length = n
 | 0, _ => rfl
 | n + 1, cs => by simp [chunks, zgd sz n]
theorem zh8 (sz : Nat) : ∀ (n : Nat) (cs : List AV) (i : Nat), (chunks sz n cs)[i]? = if i < n then some ((cs.drop (i * sz)).take sz) else none
 | 0, cs, i => by simp [chunks]
 | n + 1, cs, 0 => by simp [chunks]
 | n + 1, cs, i + 1 => by
  rw [chunks, List.getElem?_cons_succ, zh8 sz n]
  rw [List.drop_drop, show sz + i * sz = (i + 1) * sz by rw [Nat.add_mul]; omega]
  by_cases h : i < n
  ·rw [if_pos h, if_pos (by omega)]
  ·rw [if_neg h, if_neg (by omega)]
section
variable {C : Cx} {st : St} {a : Act} {w : World} {I : Nat → Prop} {β : Beta} {φ : Nat → List Nat}
theorem zr6 (hC : Conc C st a w I β φ) {nm sz cap : Nat} {xs : List (List AV)} (hn : st.ob nm = none) (arr : Array Value) (e : TypeId) (hcap : xs.length ≤ cap) (hsz : cap * sz ≤ arr.size)
 (hx : ∀ (i : Nat) x, xs[i]? = some x → x.length = sz ∧ ∀ (j : Nat) c, x[j]? = some c → ∃ v, arr[i * sz + j]? = some v ∧ RI w I c v) :
 ∃ β' φ', Conc C { st with ob := upd st.ob nm (some (.flat sz xs)) } a (w.alloc (.cells arr e)) I β' φ' ∧ β' nm = some ⟨w.heap.size, 0, sz, cap⟩ := by
 refine ⟨_, _, hC.new hn (.cells arr e) (.flat sz xs) ⟨w.heap.size, 0, sz, cap⟩ fun I' hI => ?_, zbj _ _ _⟩
 refine ⟨_, zbj _ _ _, rfl, rfl, hcap, .inr ⟨rfl, ⟨arr, e, zcx _ _, by simpa using hsz⟩, ?_⟩⟩
 rw [zh7]
 intro i x hxi
 obtain ⟨h1, h2⟩ := hx i x hxi
 refine ⟨h1, ?_⟩
 rw [zhj]
 intro j c hc
 obtain ⟨v, hv, hr⟩ := h2 j c hc
 refine ⟨v, ?_, zdu hI (fun b hb => zdk _ _ (hC.immLt b hb)) c v hr⟩
 rw [zc1 (zcx _ _), Nat.zero_add]
 exact hv
theorem zju (hC : Conc C st a w I β φ) {nm : Nat} {t : TypeId} {len : Nat} {ps : List (Nat × AV)} {qs : Array (Nat × Value)} {v : AV} {c : Prop} {u : Ups} (hq : RvParts w I β ps qs.toList)
 (h : aBuildSlice P st nm t len ps = some (c, v, u)) (hc : c) : Good P C st a w (Instr.buildSlice t len qs) v u := by
 unfold aBuildSlice at h
 split at h
 ·rename_i T hT
  obtain ⟨d, i, z, hd, hi, hz, rfl⟩ := zce hT
  simp only at h
  split at h
  ·rename_i e hk
   cases d <;> simp only [tkOf, TK.slice.injEq, reduceCtorEq] at hk
   rw [hk] at hd
   split at h
   ·rename_i E hE
    obtain ⟨d', i', z', hd', hi', hz', rfl⟩ := zce hE
    simp only at h
    split at h
    ·rename_i cs hcs
     split at h
     ·rename_i p cs' hvw
      cases h
      obtain ⟨hp, hn, h24, hzs, hone⟩ := hc
      have hn' : st.ob nm = none := by simpa using hn
      have hzs' : z'.cells.size = i'.size := by simpa using hzs
      have hr0 : Rv1s w I β (List.replicate len (z'.cells.toList.map cv)).flatten ((Array.range (len * i'.size)).map (z'.cells[· % z'.cells.size]!)).toList := by
       refine zns _ _ (by simp [hzs']) fun j c x hc hx => ?_
       rw [znv] at hc
       split at hc
       ·rename_i hj
        simp only [List.length_map, Array.length_toList] at hc hj
        rw [Array.getElem?_toList, ← hzs', zhs _ _ _ hj] at hx
        rw [List.getElem?_map, Array.getElem?_toList, hx] at hc
        cases hc
        cases x <;> first | rfl | simp [cv, Rv1, Rv0]
       ·cases hc
      obtain ⟨A', hA, hr⟩ := zf4 (w := w) (I := I) (β := β) (fun i x hx => hx) _ _ _ _ _ hcs hq hr0
      obtain ⟨I', φ', hI, hC', hl, hr'⟩ := zmt hC hvw hp hr
      have hn2 : updL st.ob (frzU st (arrN cs)) nm = none := by
       cases hh : updL st.ob (frzU st (arrN cs)) nm with
       | none => rfl
       | some o =>
        by_cases hin : nm ∈ arrN cs
        ·have : ∀ (ns : List Nat) (ob : Nat → Option OB), ob nm = none → updL ob (frzU st ns) nm = none := by
          intro ns
          induction ns with
          | nil => intro ob h; exact h
          | cons k ns ih =>
           intro ob h
           unfold frzU
           split
           ·rename_i sz xs hk
            rw [zci]
            refine ih _ ?_
            by_cases hkn : nm = k
            ·subst hkn; rw [hn'] at hk; cases hk
            ·rw [zbg _ _ hkn]; exact h
           ·exact ih _ h
         rw [this _ _ hn'] at hh; cases hh
        ·rw [zfh _ _ _ hin] at hh; rw [hn'] at hh; cases hh
      have hAsz : A'.size = len * i'.size := by
       have h1 := (zdm _ _ hr).1
       have h2 : cs.length = len * i'.size := by
        have : ∀ (ps : List (Nat × AV)) (cs cs' : List AV) (pl : Nat → Option (Nat × Nat)), fillA pl cs ps = some cs' → cs'.length = cs.length := by
         intro ps
         induction ps with
         | nil => intro cs cs' pl h; cases h; rfl
         | cons q ps ih =>
          intro cs cs' pl h
          unfold fillA at h
          split at h
          ·split at h
           ·rename_i hh; rw [ih _ _ _ h]; simp; omega
           ·cases h
          ·cases h
        rw [this _ _ _ _ hcs]; simp [hzs']
       simp only [Array.length_toList] at h1; omega
      obtain ⟨β', φ'', hC'', hβ⟩ := zr6 (cap := len) (sz := i'.size) (xs := chunks i'.size len cs') hC' hn2 A' e (by rw [zgd]; omega) (by omega) (fun k x hx => by
       rw [zh8] at hx
       split at hx
       ·rename_i hk
        cases hx
        have hb : k * i'.size + i'.size ≤ len * i'.size := by
         have : (k + 1) * i'.size ≤ len * i'.size := Nat.mul_le_mul_right _ hk
         rwa [Nat.add_mul, Nat.one_mul] at this
        refine ⟨by simp at hl ⊢; omega, fun j c hc => ?_⟩
        rw [List.getElem?_take] at hc
        split at hc
        ·rw [List.getElem?_drop] at hc
         obtain ⟨v, hv, hrv⟩ := hr' _ _ hc
         exact ⟨v, by simpa using hv, hrv⟩
        ·cases hc
       ·cases hx)
      refine ⟨.slice (some ⟨w.heap.size, 0, none⟩) len len, w.alloc (.cells A' e), I', β', φ'', ?_, ⟨_, hβ, by simp, .inl (by simp)⟩, by rw [zdd]; exact hC''⟩
      by_cases hpos : len * i'.size = 0
      ·have hA0 : (Array.range (len * i'.size)).map (z'.cells[· % z'.cells.size]!) = #[] := by rw [hpos]; simp
       rw [hA0] at hA
       simp [Instr.buildSlice, run_underlying hd, sizeOf, typeInfo, hi', hpos, newRow]
       rw [show Array.map (fun _ => (default : Value)) (Array.range 0) = #[] from by simp, hA]
       simp
      ·exact run_buildSlice w t e len qs A' i' z' hd hi' hz' (by omega) hpos hA
     ·cases h
    ·cases h
   ·cases h
  ·cases h
 ·cases h
theorem zkw (hC : Conc C st a w I β φ) {nm : Nat} {t : TypeId} {l c' v : AV} {x y : Value} {c : Prop} {u : Ups} (hx : Rv w I β l x) (hy : Rv w I β c' y)
 (h : aMakeSlice P nm st t l c' = some (c, v, u)) (hc : c) : Good P C st a w (Instr.makeSlice t x y) v u := by
 unfold aMakeSlice at h
 split at h
 ·rename_i T n m hT
  obtain ⟨d, i, z, hd, hi, hz, rfl⟩ := zce hT
  simp only at h
  split at h
  ·rename_i e hk
   cases d <;> simp only [tkOf, TK.slice.injEq, reduceCtorEq] at hk
   rw [hk] at hd
   split at h
   ·rename_i E hE
    obtain ⟨d', i', z', hd', hi', hz', rfl⟩ := zce hE
    cases h
    obtain ⟨hn, h0, h1, h2, h3, hzs, hone0⟩ := hc
    have hn' : st.ob nm = none := by simpa using hn
    have hzs' : z'.cells.size = i'.size := by simpa using hzs
    cases hx; cases hy
    have hone : ∀ v ∈ z'.cells.toList, v.oneCell' = true := by
     intro v hv
     have := List.all_eq_true.1 hone0 (cv v) (List.mem_map_of_mem hv)
     cases v <;> first | rfl | (simpa [cv, isOne, Value.oneCell'] using this)
    obtain ⟨β', φ', hC', hβ⟩ := zr6 (cap := m.toNat) (sz := i'.size) (xs := List.replicate n.toNat (z'.cells.toList.map cv)) hC hn' ((Array.range (m.toNat * i'.size)).map (z'.cells[· % z'.cells.size]!)) e (by simp; omega) (by simp)
     (fun k x hx => by
      rw [List.getElem?_replicate] at hx
      split at hx
      ·rename_i hk
       cases hx
       refine ⟨by simp [hzs'], fun j c hc => ?_⟩
       rw [List.getElem?_map] at hc
       cases hj : z'.cells.toList[j]? with
       | none => simp [hj] at hc
       | some v =>
        rw [hj] at hc; cases hc
        have hjl : j < z'.cells.size := by have := (List.getElem?_eq_some_iff.1 hj).1; simpa using this
        refine ⟨v, ?_, RIs_cv v (hone v (List.mem_of_getElem? hj))⟩
        have hb : k * i'.size + i'.size ≤ m.toNat * i'.size := by
         have : (k + 1) * i'.size ≤ m.toNat * i'.size := Nat.mul_le_mul_right _ (by omega)
         rwa [Nat.add_mul, Nat.one_mul] at this
        rw [← hzs', zhs _ _ _ (by rw [hzs']; omega), ← hj, Array.getElem?_toList]
        congr 1
        rw [Nat.mul_comm, Nat.mul_add_mod, Nat.mod_eq_of_lt hjl]
      ·cases hx)
    refine ⟨.slice (some ⟨w.heap.size, 0, none⟩) n.toNat m.toNat, _, I, β', φ', ?_, ⟨_, hβ, by simp; omega, .inl (by simp)⟩, hC'⟩
    have w1 : IntKind.i64.wrap n = n := IntWalk.i64_in _ (by omega)
    have w2 : IntKind.i64.wrap m = m := IntWalk.i64_in _ (by omega)
    have h3' : (i'.bytes : Int) * m ≤ 2 ^ 48 := h3
    have w3 : ¬ (n < 0) := by omega
    have w4 : ¬ (m < n) := by omega
    have w5 : ¬ (m < 0) := by omega
    have w6 : ¬ ((281474976710656 : Int) < (i'.bytes : Int) * m) := by
     have : (2 : Int) ^ 48 = 281474976710656 := by decide
     omega
    simp [Instr.makeSlice, run_underlying hd, typeInfo, sizeOf, zeroValue, hi', hz', asInt, asIntOf, w1, w2, w3, w4, w5, w6, askRoom]
    by_cases hpos : m.toNat * i'.size = 0
    ·simp only [hpos, newRow, if_true]
     simp
     rw [show Array.map (fun _ => (default : Value)) (Array.range 0) = #[] from by simp, show Array.map (fun x => z'.cells[x % z'.cells.size]!) (Array.range 0) = #[] from by simp]
    ·simp [hpos, newRow]
   ·cases h
  ·cases h
 ·cases h
end
end Go.Proofs.Ytmheohnbkaoipaa.Vs
end
section
namespace Go.Proofs.Ytmheohnbkaoipaa.Vs
set_option linter.all false
open Go.RowKit
variable {P : Program}
theorem zj7 {w : World} {I : Nat → Prop} {b sz : Nat} : ∀ (xs : List (List AV)) (o : Nat), RIe w I b sz o xs →
 ∃ vs : List Value, vs.length = xs.length * sz ∧ (∀ (j : Nat) v, vs[j]? = some v → w.cell? ⟨b, o + j, none⟩ = some v) ∧ (∀ v ∈ vs, v.oneCell' = true) ∧
  ∀ (i : Nat) x, xs[i]? = some x → x.length = sz ∧ ∀ (j : Nat) c, x[j]? = some c → ∃ v, vs[i * sz + j]? = some v ∧ RI w I c v
 | [], o, _ => ⟨[], by simp, by simp, by simp, by simp⟩
 | x :: xs, o, h => by
  rw [RIe] at h
  obtain ⟨h1, h2, h3⟩ := h
  obtain ⟨vs, hl, hc, ho, hx⟩ := zj7 xs (o + sz) h3
  have hcs : ∀ (cs : List AV) (o : Nat), RIc w I b o cs → ∃ us : List Value, us.length = cs.length ∧ (∀ (j : Nat) v, us[j]? = some v → w.cell? ⟨b, o + j, none⟩ = some v) ∧ (∀ v ∈ us, v.oneCell' = true) ∧
   ∀ (j : Nat) c, cs[j]? = some c → ∃ v, us[j]? = some v ∧ RI w I c v := by
   intro cs
   induction cs with
   | nil => intro o _; exact ⟨[], rfl, by simp, by simp, by simp⟩
   | cons c cs ih =>
    intro o h
    rw [RIc] at h
    obtain ⟨⟨v, hv, hr⟩, h'⟩ := h
    obtain ⟨us, g1, g2, g3, g4⟩ := ih (o + 1) h'
    refine ⟨v :: us, by simp [g1], ?_, ?_, ?_⟩
    ·intro j u hu
     cases j with
     | zero => simp at hu; subst hu; simpa using hv
     | succ j => have := g2 j u (by simpa using hu); rwa [show o + 1 + j = o + (j + 1) by omega] at this
    ·intro u hu
     rcases List.mem_cons.1 hu with rfl | hu
     ·exact RI_one _ _ hr
     ·exact g3 u hu
    ·intro j d hd
     cases j with
     | zero => simp at hd; subst hd; exact ⟨v, rfl, hr⟩
     | succ j => simpa using g4 j d (by simpa using hd)
  obtain ⟨us, g1, g2, g3, g4⟩ := hcs x o h2
  refine ⟨us ++ vs, by simp [g1, h1, hl, Nat.add_mul]; omega, ?_, ?_, ?_⟩
  ·intro j u hu
   by_cases hj : j < us.length
   ·rw [List.getElem?_append_left hj] at hu; exact g2 j u hu
   ·rw [List.getElem?_append_right (by omega)] at hu
    have := hc _ u hu
    rwa [show o + sz + (j - us.length) = o + j by omega] at this
  ·intro u hu
   rcases List.mem_append.1 hu with hu | hu
   ·exact g3 u hu
   ·exact ho u hu
  ·intro i y hy
   cases i with
   | zero =>
    simp at hy; subst hy
    refine ⟨h1, fun j c hc => ?_⟩
    obtain ⟨v, hv, hr⟩ := g4 j c hc
    refine ⟨v, ?_, hr⟩
    rw [Nat.zero_mul, Nat.zero_add, List.getElem?_append_left (List.getElem?_eq_some_iff.1 hv).1]
    exact hv
   | succ i =>
    obtain ⟨k1, k2⟩ := hx i y (by simpa using hy)
    refine ⟨k1, fun j c hc => ?_⟩
    obtain ⟨v, hv, hr⟩ := k2 j c hc
    refine ⟨v, ?_, hr⟩
    rw [List.getElem?_append_right (by rw [g1, h1, Nat.add_mul]; omega)]
    rw [g1, h1, show (i + 1) * sz + j - sz = i * sz + j by rw [Nat.add_mul]; omega]
    exact hv
section
variable {C : Cx} {st : St} {a : Act} {w : World} {I : Nat → Prop} {β : Beta} {φ : Nat → List Nat}
theorem zht (hC : Conc C st a w I β φ) {sz : Nat} {x : AV} {p : Prop} {ys : List (List AV)} (h : aNews st sz x = some (p, ys)) (hp : p) {y : Value} (hy : Rv w I β x y) :
 (ys = [] ∧ ∃ a' cap, y = .slice a' 0 cap) ∨ ∃ b o cap, y = .slice (some ⟨b, o, none⟩) ys.length cap ∧ RIe w I b sz o ys := by
 unfold aNews at h
 split at h
 ·rename_i n off len
  obtain ⟨bl, hb, hle, hx⟩ := hy
  have key : ∀ xs : List (List AV), bl.o = 0 → xs.length ≤ bl.cap → (bl.cap = 0 ∨ RIe w I bl.b bl.sz 0 xs) → off + len ≤ xs.length →
   ((xs.drop off).take len = [] ∧ ∃ a' cap, y = .slice a' 0 cap) ∨ ∃ b o cap, y = .slice (some ⟨b, o, none⟩) ((xs.drop off).take len).length cap ∧ RIe w I b bl.sz o ((xs.drop off).take len) := by
   intro xs h0 h1 h2 h3
   have hlen : ((xs.drop off).take len).length = len := by simp; omega
   rcases hx with rfl | ⟨h5, a', rfl⟩
   ·rcases h2 with h2 | h2
    ·have h4 : len = 0 := by omega
     subst h4
     exact .inl ⟨by simp, _, _, rfl⟩
    ·refine .inr ⟨_, _, _, by rw [hlen], ?_⟩
     rw [h0]
     exact zd9 _ _ len (zgy _ _ off h2)
   ·have h4 : len = 0 := by omega
    subst h4
    exact .inl ⟨by simp, _, _, rfl⟩
  split at h
  ·rename_i s xs hob
   split at h
   ·rename_i hs
    cases h
    obtain ⟨bl', hb', h1, h2, h3, h4⟩ := hC.ob _ _ hob
    rw [hb] at hb'; cases hb'
    subst hs; subst h1
    exact key xs h2 h3 (h4.imp (·.1) (·.2.2)) hp
   ·cases h
  ·rename_i s xs hob
   split at h
   ·rename_i hs
    cases h
    obtain ⟨bl', hb', h1, h2, h3, -, h4⟩ := hC.ob _ _ hob
    rw [hb] at hb'; cases hb'
    subst hs; subst h1
    exact key xs h2 h3 (h4.imp id (·.2)) hp
   ·cases h
  ·cases h
 ·rename_i s xs
  split at h
  ·rename_i hs
   cases h
   change RI w I (.sl s ys) y at hy
   rw [RI] at hy
   obtain ⟨a', cap, rfl, -, hy⟩ := hy
   rcases hy with rfl | ⟨b, o, rfl, -, hr⟩
   ·exact .inl ⟨rfl, _, _, rfl⟩
   ·rcases hs with rfl | rfl
    ·exact .inr ⟨_, _, _, rfl, hr⟩
    ·exact .inl ⟨rfl, _, _, rfl⟩
  ·cases h
 ·cases h
  cases hy
  exact .inl ⟨rfl, _, _, rfl⟩
 ·cases h
theorem Conc.rename (hC : Conc C st a w I β φ) {n nm sz : Nat} {xs zs : List (List AV)} (hob : st.ob n = some (.flat sz xs)) (hn : st.ob nm = none) {bl : Bl} (hbl : β n = some bl) {w' : World}
 (hev : Evo (· ∈ φ n) w w') (hro : RO w' I (upd β nm (some bl)) nm (.flat sz zs) (φ n)) :
 Conc C { st with ob := upd (upd st.ob n (some .dead)) nm (some (.flat sz zs)) } a w' I (upd β nm (some bl)) (upd (upd φ n []) nm (φ n)) := by
 have hne : n ≠ nm := by rintro rfl; rw [hob] at hn; cases hn
 have hβn : β nm = none := hC.dom nm hn
 have hφ : ∀ m b, b ∈ upd (upd φ n []) nm (φ n) m → (m = nm ∧ b ∈ φ n) ∨ (m ≠ nm ∧ m ≠ n ∧ b ∈ φ m) := by
  intro m b hb
  by_cases h1 : m = nm
  ·subst h1; rw [zbj] at hb; exact .inl ⟨rfl, hb⟩
  ·rw [zbg _ _ h1] at hb
   by_cases h2 : m = n
   ·subst h2; simp [zbj] at hb
   ·rw [zbg _ _ h2] at hb; exact .inr ⟨h1, h2, hb⟩
 have hdom : ∀ m, upd (upd st.ob n (some OB.dead)) nm (some (OB.flat sz zs)) m = none → m ≠ nm ∧ m ≠ n ∧ st.ob m = none := by
  intro m ho
  by_cases h1 : m = nm
  ·subst h1; simp [zbj] at ho
  ·rw [zbg _ _ h1] at ho
   by_cases h2 : m = n
   ·subst h2; simp [zbj] at ho
   ·rw [zbg _ _ h2] at ho; exact ⟨h1, h2, ho⟩
 refine hC.move (· ∈ φ n) hev (fun b hb => ⟨n, hb, fun hy => by have := hC.fnew n _ _ hob b hb; have := hC.ylt b hy; omega⟩) (fun _ hb => hb) (fun _ hb => .inl hb) ?_ ?_ ?_ ?_ ?_ ?_ ?_ ?_ ?_
 ·intro m bl' hb
  rw [zbg]
  ·exact hb
  ·rintro rfl; rw [hβn] at hb; cases hb
 ·intro m o ho
  by_cases h1 : m = nm
  ·subst h1
   simp only [zbj, Option.some.injEq] at ho ⊢
   subst ho
   exact .inr hro
  ·rw [zbg _ _ h1] at ho
   by_cases h2 : m = n
   ·subst h2
    simp only [zbj, Option.some.injEq] at ho
    subst ho
    exact .inr (by rw [zbg _ _ h1, zbj]; rfl)
   ·rw [zbg _ _ h2] at ho
    exact .inl ⟨ho, by rw [zbg _ _ h1, zbg _ _ h2], fun b hb hb' => hC.sep m n h2 b hb hb'⟩
 ·intro m ho
  obtain ⟨h1, h2, h3⟩ := hdom m ho
  rw [zbg _ _ h1]; exact hC.dom m h3
 ·intro m ho
  obtain ⟨h1, h2, h3⟩ := hdom m ho
  rw [zbg _ _ h1, zbg _ _ h2]; exact hC.fdom m h3
 ·intro m k hmk b hb hb'
  rcases hφ m b hb with ⟨rfl, h1⟩ | ⟨h1, h2, h3⟩
  ·rcases hφ k b hb' with ⟨rfl, -⟩ | ⟨-, h5, h6⟩
   ·exact hmk rfl
   ·exact hC.sep n k (Ne.symm h5) b h1 h6
  ·rcases hφ k b hb' with ⟨rfl, h4⟩ | ⟨-, -, h6⟩
   ·exact hC.sep m n h2 b h3 h4
   ·exact hC.sep m k hmk b h3 h6
 ·intro m b hb
  rcases hφ m b hb with ⟨-, h1⟩ | ⟨-, -, h3⟩
  ·exact hC.nimm n b h1
  ·exact hC.nimm m b h3
 ·intro m b hb
  have : b < w.heap.size ∧ (C.X b ∨ C.Y b ∨ C.w0.heap.size ≤ b) := by
   rcases hφ m b hb with ⟨-, h1⟩ | ⟨-, -, h3⟩
   ·exact hC.flt n b h1
   ·exact hC.flt m b h3
  exact ⟨Nat.lt_of_lt_of_le this.1 hev.size, this.2⟩
 ·intro m cs ho hwr b hb
  rcases hφ m b hb with ⟨rfl, h1⟩ | ⟨h1, h2, h3⟩
  ·simp only [zbj, Option.some.injEq] at ho; subst ho; cases hwr
  ·rw [zbg _ _ h1, zbg _ _ h2] at ho
   exact hC.wok m cs ho hwr b h3
 ·intro m s ys ho b hb
  rcases hφ m b hb with ⟨-, h1⟩ | ⟨h1, h2, h3⟩
  ·exact hC.fnew n _ _ hob b h1
  ·rw [zbg _ _ h1, zbg _ _ h2] at ho
   exact hC.fnew m _ _ ho b h3
theorem Conc.newEmpty (hC : Conc C st a w I β φ) {nm sz : Nat} (hn : st.ob nm = none) :
 ∃ β' φ', Conc C { st with ob := upd st.ob nm (some (.flat sz [])) } a w I β' φ' ∧ β' nm = some ⟨0, 0, sz, 0⟩ := by
 refine ⟨upd β nm (some ⟨0, 0, sz, 0⟩), φ, ?_, zbj _ _ _⟩
 have hdom : ∀ m, upd st.ob nm (some (OB.flat sz [])) m = none → m ≠ nm ∧ st.ob m = none := by
  intro m ho
  by_cases h1 : m = nm
  ·subst h1; simp [zbj] at ho
  ·rw [zbg _ _ h1] at ho; exact ⟨h1, ho⟩
 refine hC.move (fun _ => False) (Evo.refl _ w) (fun _ hf => hf.elim) (fun _ hb => hb) (fun _ hb => .inl hb) ?_ ?_ ?_ ?_ hC.sep hC.nimm hC.flt ?_ ?_
 ·intro m bl' hb
  rw [zbg]
  ·exact hb
  ·rintro rfl; rw [hC.dom _ hn] at hb; cases hb
 ·intro m o ho
  by_cases h1 : m = nm
  ·subst h1
   simp only [zbj, Option.some.injEq] at ho
   subst ho
   exact .inr ⟨_, zbj _ _ _, rfl, rfl, by simp, .inl ⟨rfl, hC.fdom _ hn⟩⟩
  ·rw [zbg _ _ h1] at ho
   exact .inl ⟨ho, rfl, fun _ _ hf => hf⟩
 ·intro m ho
  rw [zbg _ _ (hdom m ho).1]; exact hC.dom m (hdom m ho).2
 ·intro m ho
  exact hC.fdom m (hdom m ho).2
 ·intro m cs ho hwr b hb
  by_cases h1 : m = nm
  ·subst h1; rw [hC.fdom _ hn] at hb; simp at hb
  ·rw [zbg _ _ h1] at ho
   exact hC.wok m cs ho hwr b hb
 ·intro m s ys ho b hb
  by_cases h1 : m = nm
  ·subst h1; rw [hC.fdom _ hn] at hb; simp at hb
  ·rw [zbg _ _ h1] at ho
   exact hC.fnew m _ _ ho b hb
end
end Go.Proofs.Ytmheohnbkaoipaa.Vs
end
section
namespace Go.Proofs.Ytmheohnbkaoipaa.Vs
set_option linter.all false
open Go.RowKit
variable {P : Program}
theorem zcv (w : World) (t ty e : TypeId) (i : TypeInfo) (ht : P.underlying t = some (.slice e)) (hi : P.info? e = some i) (base a' : Option Addr) (len cap cap' : Nat) (h : len ≤ cap) :
 (Builtin.append_ #[t, t] ty #[.slice base len cap, .slice a' 0 cap']).run P w = .ok (.slice base len cap) w := by
 cases base <;> cases a' <;> simp [Builtin.append_, run_underlying ht, sizeOf, typeInfo, hi, Builtin.lenOf, h, Builtin.firstCells, loadCells, loadCellsFrom, storeCells]
theorem zdn (w : World) (t ty e ety : TypeId) (i : TypeInfo) (ht : P.underlying t = some (.slice e)) (hi : P.info? e = some i)
 (g sLen sCap : Nat) (cur : Array Value) (hg : w.heap[g]? = some (.cells cur ety (0, 0)))
 (a : Addr) (m c : Nat) (news : List Value) (hl : news.length = m * i.size) (hnews : ∀ (j : Nat) u, news[j]? = some u → w.cell? (a.add j) = some u) (h1 : ∀ u ∈ news, u.oneCell' = true)
 (hroom : sLen + m ≤ sCap) (hfit : sLen * i.size + news.length ≤ cur.size) :
 (Builtin.append_ #[t, t] ty #[.slice (some ⟨g, 0, none⟩) sLen sCap, .slice (some a) m c]).run P w =
  .ok (.slice (some ⟨g, 0, none⟩) (sLen + m) sCap) (w.setRow g (cur.toList.take (sLen * i.size) ++ news ++ cur.toList.drop (sLen * i.size + news.length)).toArray) := by
 have hf := run_firstCells_some (P := P) w i.size m a m c news hl hnews
 have hst := run_storeCells_at P g (sLen * i.size) ety news 0 cur w hg (by simpa using hfit) h1
 simp only [Nat.add_zero] at hst
 simp [Builtin.append_, run_underlying ht, sizeOf, typeInfo, hi, Builtin.lenOf, hroom, hf, Addr.add_lit, hst]
theorem zf1 (z : Array Value) (n : Nat) : (Builtin.zeroCells z n).size = n * z.size := by simp [Builtin.zeroCells]
section
variable {C : Cx} {st : St} {a : Act} {w : World} {I : Nat → Prop} {β : Beta} {φ : Nat → List Nat}
theorem zkx (hC : Conc C st a w I β φ) {nm : Nat} (hn : st.ob nm = none) {e : TypeId} {sz : Nat} (z : Array Value) (hz : z.size = sz) {os ns : List Value} {xs ys : List (List AV)} (hol : os.length = xs.length * sz) (hnl : ns.length = ys.length * sz)
 (ho : ∀ (i : Nat) x, xs[i]? = some x → x.length = sz ∧ ∀ (j : Nat) c, x[j]? = some c → ∃ v, os[i * sz + j]? = some v ∧ RI w I c v)
 (hy : ∀ (i : Nat) x, ys[i]? = some x → x.length = sz ∧ ∀ (j : Nat) c, x[j]? = some c → ∃ v, ns[i * sz + j]? = some v ∧ RI w I c v)
 (cap : Nat) (hcap : xs.length + ys.length ≤ cap) (arr : Array Value) (harr : arr = os.toArray ++ ns.toArray ++ Builtin.zeroCells z (cap - (xs.length + ys.length))) :
 ∃ β' φ', Conc C { st with ob := upd st.ob nm (some (.flat sz (xs ++ ys))) } a (w.drew.alloc (.cells arr e)) I β' φ' ∧ β' nm = some ⟨w.heap.size, 0, sz, cap⟩ := by
 have hasz : cap * sz ≤ arr.size := by
  rw [harr]
  simp only [Array.size_append, List.size_toArray, zf1, hol, hnl, hz]
  rw [← Nat.add_mul, ← Nat.add_mul]
  exact Nat.mul_le_mul_right _ (by omega)
 refine zr6 hC.drew hn arr e (by simp; omega) hasz ?_
 intro i x hx
 have hlen : os.length = xs.length * sz := hol
 by_cases hi : i < xs.length
 ·rw [List.getElem?_append_left hi] at hx
  obtain ⟨h1, h2⟩ := ho i x hx
  refine ⟨h1, fun j c hc => ?_⟩
  obtain ⟨v, hv, hr⟩ := h2 j c hc
  refine ⟨v, ?_, zdu (w := w) (w' := w.drew) (fun _ h => h) (fun _ _ => rfl) c v hr⟩
  rw [harr, Array.append_assoc, Array.getElem?_append_left (by simpa using (List.getElem?_eq_some_iff.1 hv).1)]
  simpa using hv
 ·rw [List.getElem?_append_right (by omega)] at hx
  obtain ⟨h1, h2⟩ := hy _ x hx
  refine ⟨h1, fun j c hc => ?_⟩
  obtain ⟨v, hv, hr⟩ := h2 j c hc
  refine ⟨v, ?_, zdu (w := w) (w' := w.drew) (fun _ h => h) (fun _ _ => rfl) c v hr⟩
  have hidx : i * sz + j - os.length = (i - xs.length) * sz + j := by
   have : i * sz = xs.length * sz + (i - xs.length) * sz := by rw [← Nat.add_mul]; congr 1; omega
   rw [hol, this]; omega
  have hge : os.length ≤ i * sz + j := by
   have : xs.length * sz ≤ i * sz := Nat.mul_le_mul_right _ (by omega)
   rw [hol]; omega
  have hvl := (List.getElem?_eq_some_iff.1 hv).1
  rw [harr, Array.append_assoc, Array.getElem?_append_right (by simpa using hge)]
  simp only [List.size_toArray]
  rw [hidx, Array.getElem?_append_left (by simpa using hvl)]
  simpa using hv
theorem zp4 (hC : Conc C st a w I β φ) {nm : Nat} {ts : List TypeId} {ty : TypeId} {s x v : AV} {p y : Value} {c : Prop} {u : Ups} (hs : Rv w I β s p) (hx : Rv w I β x y)
 (h : aAppend P st nm ts s x = some (c, v, u)) (hc : c) : Good P C st a w (Builtin.append_ ts.toArray ty #[p, y]) v u := by
 unfold aAppend at h
 split at h
 ·rename_i t t'
  split at h
  ·rename_i T hT
   obtain ⟨d, i, z, hd, hi, hz, rfl⟩ := zce hT
   simp only at h
   split at h
   ·rename_i e hk
    cases d <;> simp only [tkOf, TK.slice.injEq, reduceCtorEq] at hk
    rw [hk] at hd
    split at h
    ·rename_i E hE
     obtain ⟨d', i', z', hd', hi', hz', rfl⟩ := zce hE
     simp only at h
     split at h
     ·rename_i q ys hnews
      split at h
      · -- nil
       cases h
       obtain ⟨hq, hn, rfl, hpos, hzs, h47, h62⟩ := hc
       have hn' : st.ob nm = none := by simpa using hn
       have hzs' : z'.cells.size = i'.size := by simpa using hzs
       cases hs
       rcases zht hC hnews hq hx with ⟨rfl, a', cap', rfl⟩ | ⟨b, o, cap', rfl, hr⟩
       ·obtain ⟨β', φ', hC', hβ⟩ := hC.newEmpty (sz := i'.size) hn'
        exact ⟨_, w, I, β', φ', zcv w t ty e i' hd hi' none a' 0 0 cap' (Nat.le_refl _), ⟨_, hβ, by simp, .inr ⟨rfl, none, rfl⟩⟩, hC'⟩
       ·rcases Nat.eq_zero_or_pos ys.length with h0 | h0
        ·have hy0 : ys = [] := List.length_eq_zero_iff.1 h0
         subst hy0
         obtain ⟨β', φ', hC', hβ⟩ := hC.newEmpty (sz := i'.size) hn'
         exact ⟨_, w, I, β', φ', zcv w t ty e i' hd hi' none _ 0 0 cap' (Nat.le_refl _), ⟨_, hβ, by simp, .inr ⟨rfl, none, rfl⟩⟩, hC'⟩
        ·obtain ⟨vs, hl, hcell, hone, hel⟩ := zj7 _ _ hr
         have hrun := run_append_nil (P := P) w t ty e i' z' hd hi' hz' ⟨b, o, none⟩ ys.length cap' vs hl (fun j v hv => by rw [Addr.add_lit]; exact hcell j v hv) h0 (by omega) (by omega)
         obtain ⟨β', φ', hC', hβ⟩ := zkx (e := e) hC hn' z'.cells hzs' (os := []) (xs := []) (ns := vs) (ys := ys) (by simp) hl (by simp) hel (grownCap w ys.length 0 e) (by simpa using grownCap_ge w ys.length 0 e) _ rfl
         simp only [List.length_nil, Nat.zero_add, List.nil_append, Array.empty_append] at hC'
         exact ⟨_, _, I, β', φ', hrun, ⟨_, hβ, by simpa using grownCap_ge w ys.length 0 e, .inl (by simp)⟩, hC'⟩
      · -- an own row
       rename_i n len
       split at h
       ·rename_i sz xs hob
        split at h
        ·rename_i hsz
         cases h
         obtain ⟨hq, hn, rfl, hpos, hzs, hlx, h47, h62⟩ := hc
         have hn' : st.ob nm = none := by simpa using hn
         have hzs' : z'.cells.size = i'.size := by simpa using hzs
         obtain ⟨bl, hb, hle, hp⟩ := hs
         obtain ⟨bl', hb', h1, h2, h3, h4⟩ := hC.ob _ _ hob
         rw [hb] at hb'; cases hb'
         subst h1
         replace hsz : bl.sz = i'.size := hsz
         rw [Nat.zero_mul, Nat.add_zero, Nat.sub_zero, h2] at hp
         have hdead : ∀ (w' : World) (β' : Beta) (φ' : Nat → List Nat) (zs : List (List AV)), Conc C { st with ob := upd st.ob nm (some (.flat bl.sz zs)) } a w' I β' φ' →
          Conc C { st with ob := upd (upd st.ob n (some .dead)) nm (some (.flat bl.sz zs)) } a w' I β' (upd φ' n []) := by
          intro w' β' φ' zs hC'
          have hne : n ≠ nm := by rintro rfl; rw [hob] at hn'; cases hn'
          have hφ : ∀ m b, b ∈ upd φ' n [] m → m ≠ n ∧ b ∈ φ' m := by
           intro m b hb
           by_cases h2 : m = n
           ·subst h2; simp [zbj] at hb
           ·rw [zbg _ _ h2] at hb; exact ⟨h2, hb⟩
          have hdom : ∀ m, upd (upd st.ob n (some OB.dead)) nm (some (OB.flat bl.sz zs)) m = none → m ≠ n ∧ upd st.ob nm (some (OB.flat bl.sz zs)) m = none := by
           intro m ho
           by_cases h1 : m = nm
           ·subst h1; simp [zbj] at ho
           ·rw [zbg _ _ h1] at ho ⊢
            by_cases h2 : m = n
            ·subst h2; simp [zbj] at ho
            ·rw [zbg _ _ h2] at ho; exact ⟨h2, ho⟩
          refine hC'.move (fun _ => False) (Evo.refl _ w') (fun _ hf => hf.elim) (fun _ hb => hb) (fun _ hb => .inl hb) (fun _ _ hb => hb) ?_ (fun m ho => hC'.dom m (hdom m ho).2) ?_ ?_ ?_ ?_ ?_ ?_
          ·intro m o ho
           by_cases h2 : m = n
           ·subst h2
            rw [zbg _ _ hne, zbj] at ho
            cases ho
            exact .inr (by rw [zbj]; rfl)
           ·refine .inl ⟨?_, zbg _ _ h2, fun _ _ hf => hf⟩
            by_cases h1 : m = nm
            ·subst h1; simpa only [zbj] using ho
            ·rw [zbg _ _ h1, zbg _ _ h2] at ho
             show upd st.ob nm (some (OB.flat bl.sz zs)) m = some o
             rw [zbg _ _ h1]; exact ho
          ·intro m ho
           rw [zbg _ _ (hdom m ho).1]; exact hC'.fdom m (hdom m ho).2
          ·intro m k hmk b hb hb'
           exact hC'.sep m k hmk b (hφ m b hb).2 (hφ k b hb').2
          ·intro m b hb; exact hC'.nimm m b (hφ m b hb).2
          ·intro m b hb; exact hC'.flt m b (hφ m b hb).2
          ·intro m cs ho hwr b hb
           obtain ⟨h2, h3⟩ := hφ m b hb
           refine hC'.wok m cs ?_ hwr b h3
           show upd st.ob nm (some (OB.flat bl.sz zs)) m = some cs
           by_cases h1 : m = nm
           ·subst h1; simp only [zbj, Option.some.injEq] at ho ⊢; exact ho
           ·rw [zbg _ _ h1, zbg _ _ h2] at ho
            rw [zbg _ _ h1]; exact ho
          ·intro m s ys ho b hb
           obtain ⟨h2, h3⟩ := hφ m b hb
           refine hC'.fnew m s ys ?_ b h3
           show upd st.ob nm (some (OB.flat bl.sz zs)) m = some (.flat s ys)
           by_cases h1 : m = nm
           ·subst h1; simpa only [zbj] using ho
           ·rw [zbg _ _ h1, zbg _ _ h2] at ho
            rw [zbg _ _ h1]; exact ho
         have hxl : (xs.take len).length = len := by simp; omega
         have htake : bl.cap = 0 ∨ RIe w I bl.b bl.sz 0 (xs.take len) := h4.imp (·.1) (fun h => zd9 _ _ len h.2.2)
         -- the elements that come
         have hyy : (ys = [] ∧ ∃ a' cap', y = .slice a' 0 cap') ∨ (0 < ys.length ∧ ∃ b o cap', y = .slice (some ⟨b, o, none⟩) ys.length cap' ∧ RIe w I b i'.size o ys) := by
          rcases zht hC hnews hq hx with h | ⟨b, o, cap', h, hr⟩
          ·exact .inl h
          ·rcases Nat.eq_zero_or_pos ys.length with h0 | h0
           ·exact .inl ⟨List.length_eq_zero_iff.1 h0, _, _, by rw [h, h0]⟩
           ·exact .inr ⟨h0, b, o, cap', h, hr⟩
         rw [← hsz]
         rcases hyy with ⟨rfl, a', cap', rfl⟩ | ⟨hy0, b, o, cap', rfl, hr⟩
         ·have hC' := hC.rename (zs := xs.take len) hob hn' hb (Evo.refl _ w) ⟨bl, zbj _ _ _, rfl, h2, by simp; omega, h4.imp id fun h => ⟨h.1, h.2.1, zd9 _ _ len h.2.2⟩⟩
          rw [List.append_nil]
          rcases hp with rfl | ⟨h0, a0, rfl⟩
          ·exact ⟨_, w, I, _, _, zcv w t ty e i' hd hi' _ a' len bl.cap cap' (by omega), ⟨bl, zbj _ _ _, by simp; omega, .inl (by simp [h2])⟩, hC'⟩
          ·have hl0 : len = 0 := by omega
           subst hl0
           exact ⟨_, w, I, _, _, zcv w t ty e i' hd hi' a0 a' 0 0 cap' (by omega), ⟨bl, zbj _ _ _, by simp, .inr ⟨h0, a0, rfl⟩⟩, hC'⟩
         ·rw [← hsz] at hr
          obtain ⟨vs, hl, hcell, hone, hel⟩ := zj7 _ _ hr
          have hcell' : ∀ (j : Nat) v, vs[j]? = some v → w.cell? ((⟨b, o, none⟩ : Addr).add j) = some v := fun j v hv => by rw [Addr.add_lit]; exact hcell j v hv
          by_cases hroom : len + ys.length ≤ bl.cap
          ·rcases hp with rfl | ⟨h0, a0, rfl⟩
           ·rcases h4 with ⟨h4, -⟩ | ⟨hφ, ⟨arr, ety, hh, hsize⟩, hrc⟩
            ·omega
            ·have hbig : len * bl.sz + ys.length * bl.sz ≤ bl.cap * bl.sz := by rw [← Nat.add_mul]; exact Nat.mul_le_mul_right _ hroom
             have hrun := zdn (P := P) w t ty e ety i' hd hi' bl.b len bl.cap arr hh ⟨b, o, none⟩ ys.length cap' vs (by rw [hl, hsz]) hcell' hone hroom (by rw [← hsz, hl]; omega)
             have hlen' : (arr.toList.take (len * i'.size)).length = len * bl.sz := by simp; rw [hsz] at hbig hsize ⊢; omega
             have hnew := setRow_heap w bl.b arr (arr.toList.take (len * i'.size) ++ vs ++ arr.toList.drop (len * i'.size + vs.length)).toArray ety (0, 0) hh
             have hev : ∀ b, I b → (w.setRow bl.b (arr.toList.take (len * i'.size) ++ vs ++ arr.toList.drop (len * i'.size + vs.length)).toArray).heap[b]? = w.heap[b]? := fun b hb' => setRow_other w bl.b b _ (by rintro rfl; exact hC.nimm n _ (by rw [hφ]; simp) hb')
             have hspl : ∀ k, (w.setRow bl.b (arr.toList.take (len * i'.size) ++ vs ++ arr.toList.drop (len * i'.size + vs.length)).toArray).cell? ⟨bl.b, k, none⟩ =
              if len * bl.sz ≤ k ∧ k < len * bl.sz + vs.length then vs[k - len * bl.sz]? else arr[k]? := by
              intro k
              have hfit2 : len * i'.size + vs.length ≤ arr.toList.length := by rw [Array.length_toList (xs := arr), hl, ← hsz]; omega
              rw [zc1 hnew, List.getElem?_toArray, zdw _ _ _ hfit2, hsz]
              simp
             have hro : RO (w.setRow bl.b (arr.toList.take (len * i'.size) ++ vs ++ arr.toList.drop (len * i'.size + vs.length)).toArray) I (upd β nm (some bl)) nm (.flat bl.sz (xs.take len ++ ys)) (φ n) := by
              refine ⟨bl, zbj _ _ _, rfl, h2, by simp; omega, .inr ⟨hφ, ⟨_, ety, hnew, by simp; omega⟩, ?_⟩⟩
              refine zmp _ _ _ ?_ ?_
              ·rw [zh7]
               intro i x hxi
               obtain ⟨k1, k2⟩ := zh6 _ _ _ _ (zd9 _ _ len hrc) hxi
               refine ⟨k1, ?_⟩
               rw [zhj] at k2 ⊢
               intro j c hc
               obtain ⟨v, hv, hrv⟩ := k2 j c hc
               refine ⟨v, ?_, zdu (fun _ h => h) hev c v hrv⟩
               have hj : j < bl.sz := by rw [← k1]; exact (List.getElem?_eq_some_iff.1 hc).1
               have hi2 : i < len := by have := (List.getElem?_eq_some_iff.1 hxi).1; omega
               have : (i + 1) * bl.sz ≤ len * bl.sz := Nat.mul_le_mul_right _ hi2
               rw [Nat.add_mul, Nat.one_mul] at this
               rw [hspl, if_neg (by omega)]
               rwa [zc1 hh] at hv
              ·rw [zh7]
               intro i y hyi
               obtain ⟨k1, k2⟩ := hel i y hyi
               refine ⟨k1, ?_⟩
               rw [zhj]
               intro j c hc
               obtain ⟨v, hv, hrv⟩ := k2 j c hc
               have hvl := (List.getElem?_eq_some_iff.1 hv).1
               refine ⟨v, ?_, zdu (fun _ h => h) hev c v hrv⟩
               rw [hspl, hxl, if_pos (by omega), ← hv]
               congr 1; omega
             have hC' := hC.rename (zs := xs.take len ++ ys) hob hn' hb (zdo w bl.b _ _ (by rw [hφ]; simp)) hro
             exact ⟨_, _, I, _, _, hrun, ⟨bl, zbj _ _ _, by omega, .inl (by simp [h2])⟩, hC'⟩
           ·omega
          ·have hns : (∃ os : List Value, os.length = (xs.take len).length * bl.sz ∧ (∀ (j : Nat) v, os[j]? = some v → w.cell? ⟨bl.b, 0 + j, none⟩ = some v) ∧
            ∀ (i : Nat) x, (xs.take len)[i]? = some x → x.length = bl.sz ∧ ∀ (j : Nat) c, x[j]? = some c → ∃ v, os[i * bl.sz + j]? = some v ∧ RI w I c v) := by
            rcases htake with h0 | h0
            ·have : xs.take len = [] := List.length_eq_zero_iff.1 (by omega)
             rw [this]
             exact ⟨[], by simp, by simp, by simp⟩
            ·obtain ⟨os, g1, g2, g3, g4⟩ := zj7 _ _ h0
             exact ⟨os, g1, g2, g4⟩
           obtain ⟨os, hol, hoc, hoel⟩ := hns
           obtain ⟨β', φ', hC', hβ⟩ := zkx (e := e) hC hn' z'.cells (hzs'.trans hsz.symm) hol hl hoel hel (grownCap w (len + ys.length) bl.cap e) (by rw [hxl]; exact grownCap_ge w _ _ e) _ rfl
           have hC'' := hdead _ _ _ _ hC'
           have hne : n ≠ nm := by rintro rfl; rw [hob] at hn'; cases hn'
           rw [hxl] at hC'' hol
           refine ⟨_, _, I, β', _, ?_, ⟨_, hβ, ?_, .inl rfl⟩, hC''⟩
           ·rcases hp with rfl | ⟨h0, a0, rfl⟩
            ·have := run_append_grow (P := P) w t ty e i' z' hd hi' hz' ⟨bl.b, 0, none⟩ len bl.cap os (by rw [hol, hsz]) (fun j v hv => by rw [Addr.add_lit]; exact hoc j v hv) ⟨b, o, none⟩ ys.length cap' vs (by rw [hl, hsz]) hcell' (by omega) (by omega)
              (growslice_fits (by omega) (by omega))
             simpa using this
            ·have hl0 : len = 0 := by omega
             subst hl0
             have ho0 : os = [] := List.length_eq_zero_iff.1 (by simpa using hol)
             subst ho0
             cases a0 with
             | none =>
              have := run_append_nil (P := P) w t ty e i' z' hd hi' hz' ⟨b, o, none⟩ ys.length cap' vs (by rw [hl, hsz]) hcell' hy0 (by omega) (by have h := h47; rw [Nat.zero_add] at h; exact Nat.le_trans h (by decide))
              simpa [← h0] using this
             | some a0 =>
              have := run_append_grow (P := P) w t ty e i' z' hd hi' hz' a0 0 0 [] (by simp) (by simp) ⟨b, o, none⟩ ys.length cap' vs (by rw [hl, hsz]) hcell' (by omega) (by omega)
               (growslice_fits (by omega) (by omega))
              simpa [← h0] using this
           ·simpa using grownCap_ge w (len + ys.length) bl.cap e
        ·cases h
       ·cases h
      ·cases h
     ·cases h
    ·cases h
   ·cases h
  ·cases h
 ·cases h
end
end Go.Proofs.Ytmheohnbkaoipaa.Vs
end
section
namespace Go.Proofs.Ytmheohnbkaoipaa.Vs
set_option linter.all false
open Go.RowKit
variable {P : Program}
section
variable {C : Cx} {st : St} {a : Act} {w : World} {I : Nat → Prop} {β : Beta} {φ : Nat → List Nat}
theorem RIe_elem {b sz o : Nat} {xs : List (List AV)} (h : RIe w I b sz o xs) (i : Nat) (hi : i < xs.length) : RIc w I b (o + i * sz) (xs.getD i []) := by
 rw [List.getD_eq_getElem?_getD, List.getElem?_eq_getElem hi, Option.getD_some]
 exact (zh6 _ _ _ _ h (List.getElem?_eq_getElem hi)).2
theorem zky (hC : Conc C st a w I β φ) {t : TypeId} {x i v : AV} {p q : Value} {c : Prop} {u : Ups} (hx : Rv w I β x p) (hi : Rv w I β i q)
 (h : aIndexAddr P st t x i = some (c, v, u)) (hc : c) : Good P C st a w (Instr.indexAt t p q) v u := by
 unfold aIndexAddr at h
 split at h
 ·rename_i T x k n hT
  obtain ⟨d, inf, z, hd, hinf, hz, rfl⟩ := zce hT
  cases hi
  simp only at h
  split at h
  ·rename_i e m off len hk
   cases d <;> simp only [tkOf, TK.slice.injEq, reduceCtorEq] at hk
   rw [hk] at hd
   split at h
   ·rename_i E hE
    obtain ⟨d', i', z', hd', hi', hz', rfl⟩ := zce hE
    obtain ⟨bl, hb, hle, hp⟩ := hx
    have key : ∀ sz, bl.sz = sz → (0 ≤ n ∧ n < len ∧ i'.size = sz) → Good P C st a w (Instr.indexAt t p (.int k n)) (.eptr m (off + n.toNat) 0) [] := by
     rintro sz hs ⟨h1, h2, h3⟩
     rcases hp with rfl | ⟨h0, a0, rfl⟩
     ·refine zby hC (y := .pointer (some ⟨bl.b, bl.o + ((off + n.toNat) * bl.sz + 0), none⟩)) ?_ ⟨bl, hb, rfl⟩
      simp [Instr.indexAt, asIntOf, run_underlying hd, h1, h2, sizeOf, typeInfo, hi', Addr.add_lit, h3, hs]
      rw [Nat.add_mul]; omega
     ·omega
    split at h
    ·rename_i sz xs hob
     cases h
     obtain ⟨bl', hb', h1, -⟩ := hC.ob _ _ hob
     rw [hb] at hb'; cases hb'
     exact key sz h1 hc
    ·rename_i sz xs hob
     cases h
     obtain ⟨bl', hb', h1, -⟩ := hC.ob _ _ hob
     rw [hb] at hb'; cases hb'
     exact key sz h1 hc
    ·rename_i sz xs hob
     cases h
     obtain ⟨bl', hb', h1, -⟩ := hC.ob _ _ hob
     rw [hb] at hb'; cases hb'
     exact key sz h1 hc
    ·cases h
   ·cases h
  ·rename_i e sz xs hk
   cases d <;> simp only [tkOf, TK.slice.injEq, reduceCtorEq] at hk
   rw [hk] at hd
   split at h
   ·rename_i E hE
    obtain ⟨d', i', z', hd', hi', hz', rfl⟩ := zce hE
    cases h
    obtain ⟨h1, h2, h3⟩ := hc
    change RI w I (.sl sz xs) p at hx
    rw [RI] at hx
    obtain ⟨a', cap, rfl, -, rfl | ⟨b, o, rfl, hIb, hr⟩⟩ := hx
    ·simp at h2; omega
    ·have h3' : i'.size = sz := h3
     refine zby hC (y := .pointer (some ⟨b, o + n.toNat * sz, none⟩)) ?_ ⟨b, _, rfl, hIb, RIe_elem hr _ (by omega)⟩
     simp [Instr.indexAt, asIntOf, run_underlying hd, h1, h2, sizeOf, typeInfo, hi', Addr.add_lit, h3']
   ·cases h
  ·rename_i len e m off hk
   cases d <;> simp only [tkOf, TK.array.injEq, reduceCtorEq] at hk
   rw [hk.1, hk.2] at hd
   split at h
   ·rename_i E hE
    obtain ⟨d', i', z', hd', hi', hz', rfl⟩ := zce hE
    cases h
    obtain ⟨h1, h2⟩ := hc
    obtain ⟨bl, hb, rfl⟩ := hx
    refine zby hC (y := .pointer (some ⟨bl.b, bl.o + (off + n.toNat * i'.size), none⟩)) ?_ ⟨bl, hb, rfl⟩
    simp [Instr.indexAt, Instr.sureAddr, asIntOf, run_underlying hd, h1, h2, sizeOf, typeInfo, hi', Addr.add_lit, Nat.add_assoc]
   ·cases h
  ·cases h
 ·cases h
theorem zjq : ∀ (fs : List Field) (f o size : Nat), placeOf P (fs.map fun f => (f.offset, f.type)) f = some (o, size) → ∃ fd i, fs[f]? = some fd ∧ P.info? fd.type = some i ∧ fd.offset = o ∧ i.size = size
 | [], _, _, _, h => by cases h
 | fd :: fs, 0, o, size, h => by
  simp only [List.map_cons, placeOf] at h
  split at h
  ·rename_i T hT
   obtain ⟨d, i, z, hd, hi, hz, rfl⟩ := zce hT
   cases h
   exact ⟨fd, i, rfl, hi, rfl, rfl⟩
  ·cases h
 | fd :: fs, f + 1, o, size, h => by
  simp only [List.map_cons, placeOf] at h
  simpa using zjq fs f o size h
theorem zkz (hC : Conc C st a w I β φ) {t : TypeId} {x v : AV} {f : Nat} {p : Value} {c : Prop} {u : Ups} (hx : Rv w I β x p)
 (h : aFieldAddr P t x f = some (c, v, u)) : Good P C st a w (Instr.fieldAt t p f) v u := by
 unfold aFieldAddr at h
 split at h
 ·rename_i T hT
  obtain ⟨d, inf, z, hd, hinf, hz, rfl⟩ := zce hT
  simp only at h
  split at h
  ·rename_i fs hk
   cases d <;> simp only [tkOf, TK.struct.injEq, reduceCtorEq] at hk
   rename_i fields
   subst hk
   split at h
   ·rename_i o size hpl
    obtain ⟨fd, i, hfd, hi, rfl, rfl⟩ := zjq _ _ _ _ hpl
    have hfd' : fields[f]? = some fd := by simpa using hfd
    split at h
    ·cases h
    ·rename_i h0
     have run : ∀ b o', (Instr.fieldAt t (.pointer (some ⟨b, o', none⟩)) f).run P w = .ok (.pointer (some ⟨b, o' + fd.offset, none⟩)) w := by
      intro b o'
      simp [Instr.fieldAt, run_underlying hd, hfd', Instr.sureAddr, fieldPlace, sizeOf, typeInfo, hi, h0, Addr.add_lit]
     split at h
     ·cases h
      obtain ⟨bl, hb, rfl⟩ := hx
      exact zby hC (run _ _) ⟨bl, hb, by rw [Nat.add_assoc]⟩
     ·cases h
      obtain ⟨bl, hb, rfl⟩ := hx
      exact zby hC (run _ _) ⟨bl, hb, by rw [Nat.add_assoc, Nat.add_assoc]⟩
     ·cases h
      obtain ⟨b, o', rfl, hI, hr⟩ := hx
      exact zby hC (run _ _) ⟨b, _, rfl, hI, znp _ _ _ hr⟩
     ·cases h
   ·cases h
  ·cases h
 ·cases h
theorem zp5 : ∀ (n : Nat) (cs : List AV) (vs : List Value), Rv1s w I β cs vs → Rv1s w I β (cs.take n) (vs.take n)
 | 0, _, _, _ => by simp [Rv1s]
 | n + 1, [], vs, h => by cases h; simp [Rv1s]
 | n + 1, c :: cs, _, h => by obtain ⟨v, vs', rfl, h1, h2⟩ := h; exact ⟨v, vs'.take n, rfl, h1, zp5 n cs vs' h2⟩
theorem zk0 : ∀ (n : Nat) (cs : List AV) (vs : List Value), Rv1s w I β cs vs → Rv1s w I β (cs.drop n) (vs.drop n)
 | 0, _, _, h => by simpa using h
 | n + 1, [], vs, h => by cases h; simp [Rv1s]
 | n + 1, c :: cs, _, h => by obtain ⟨v, vs', rfl, h1, h2⟩ := h; exact zk0 n cs vs' h2
theorem zr7 (hC : Conc C st a w I β φ) {t : TypeId} {x v : AV} {f : Nat} {p : Value} {c : Prop} {u : Ups} (hx : Rv w I β x p)
 (h : aField P t x f = some (c, v, u)) : Good P C st a w (Instr.field t p f) v u := by
 unfold aField at h
 split at h
 ·rename_i T cs hT
  obtain ⟨d, inf, z, hd, hinf, hz, rfl⟩ := zce hT
  obtain ⟨vs, rfl, hr⟩ := hx
  simp only at h
  split at h
  ·rename_i fs hk
   cases d <;> simp only [tkOf, TK.struct.injEq, reduceCtorEq] at hk
   rename_i fields
   subst hk
   split at h
   ·rename_i o ft hf
    have hf' : ∃ fd, fields[f]? = some fd ∧ fd.offset = o ∧ fd.type = ft := by
     rw [List.getElem?_map] at hf
     cases hh : fields.toList[f]? with
     | none => simp [hh] at hf
     | some fd => simp [hh] at hf; exact ⟨fd, by simpa using hh, hf.1, hf.2⟩
    obtain ⟨fd, hfd, rfl, rfl⟩ := hf'
    split at h
    ·rename_i F hF
     obtain ⟨d', i', z', hd', hi', hz', rfl⟩ := zce hF
     simp only at h
     split at h
     ·rename_i hag
      cases h
      refine zby hC (y := .agg ⟨(vs.drop fd.offset).take i'.size⟩) ?_ ⟨_, rfl, zp5 _ _ _ (zk0 _ _ _ hr)⟩
      simp [Instr.field, run_underlying hd, hfd, part, zfm hd', hag, asAgg, sizeOf, typeInfo, hi']
     ·rename_i hag
      split at h
      ·rename_i c0 rest hdr
       cases h
       have hag' : aggOf d' = false := by simpa using hag
       have h1 := zk0 fd.offset _ _ hr
       rw [hdr] at h1
       obtain ⟨v0, vs', hv, hrv, -⟩ := h1
       have hvo : vs[fd.offset]? = some v0 := by
        have := congrArg (·[0]?) hv
        simpa using this
       refine zby hC (y := v0) ?_ (zgk _ _ hrv)
       simp [Instr.field, run_underlying hd, hfd, part, zfm hd', hag', asAgg, hvo]
      ·cases h
    ·cases h
   ·cases h
  ·cases h
 ·cases h
theorem zr8 (hC : Conc C st a w I β φ) {t : TypeId} {x i v : AV} {p q : Value} {c : Prop} {u : Ups} (hx : Rv w I β x p) (hi : Rv w I β i q)
 (h : aIndex P t x i = some (c, v, u)) (hc : c) : Good P C st a w (Instr.index t p q) v u := by
 unfold aIndex at h
 split at h
 ·rename_i ag sz by' zr l k n hT
  obtain ⟨d, inf, z, hd, hinf, hz, hTe⟩ := zce hT
  have hk : tkOf d = .str := by have := congrArg TI.kind hTe; simpa using this.symm
  have ht : P.underlying t = some .string := by
   cases d <;> simp only [tkOf, reduceCtorEq] at hk
   exact hd
  cases h; cases hx; cases hi
  obtain ⟨h1, h2⟩ := hc
  have hlt : n.toNat < l.length := by omega
  have hlt' : n.toNat < (⟨l.toArray⟩ : ByteArray).size := by simpa [ByteArray.size] using hlt
  have hb : (⟨l.toArray⟩ : ByteArray)[n.toNat]? = some (l.getD n.toNat 0) := by
   rw [getElem?_pos (⟨l.toArray⟩ : ByteArray) n.toNat hlt']
   simp [ByteArray.getElem_eq_getElem_data, List.getD_eq_getElem?_getD, hlt]
  refine zby hC (y := .int .u8 (l.getD n.toNat 0).toNat) ?_ rfl
  simp only [Instr.index, Sem.run_bind, asIntOf, run_underlying ht]
  simp [h1, hb]
 ·cases h
end
end Go.Proofs.Ytmheohnbkaoipaa.Vs
namespace Go.Proofs.Ytmheohnbkaoipaa.Vs
set_option linter.all false
open Go.RowKit
variable {P : Program}
section
variable {C : Cx} {st : St} {a : Act} {w : World} {I : Nat → Prop} {β : Beta} {φ : Nat → List Nat}
theorem zgl {t : TypeId} {T : TI} (h : ti P t = some T) (hk : T.kind = .str) : P.underlying t = some .string := by
 obtain ⟨d, inf, z, hd, hinf, hz, rfl⟩ := zce h
 cases d <;> simp only [tkOf, reduceCtorEq] at hk
 exact hd
theorem zdh {t e : TypeId} {T : TI} (h : ti P t = some T) (hk : T.kind = .slice e) : P.underlying t = some (.slice e) := by
 obtain ⟨d, inf, z, hd, hinf, hz, rfl⟩ := zce h
 cases d <;> simp only [tkOf, reduceCtorEq, TK.slice.injEq] at hk
 rw [hk] at hd; exact hd
theorem ti_array {t e : TypeId} {n : Nat} {T : TI} (h : ti P t = some T) (hk : T.kind = .array n e) : P.underlying t = some (.array n e) := by
 obtain ⟨d, inf, z, hd, hinf, hz, rfl⟩ := zce h
 cases d <;> simp only [tkOf, reduceCtorEq, TK.array.injEq] at hk
 rw [hk.1, hk.2] at hd; exact hd
theorem zts {t : TypeId} {k : IntKind} {T : TI} (h : ti P t = some T) (hk : T.kind = .int k) : P.underlying t = some (.int k) := by
 obtain ⟨d, inf, z, hd, hinf, hz, rfl⟩ := zce h
 cases d <;> simp only [tkOf, reduceCtorEq, TK.int.injEq] at hk
 rw [hk] at hd; exact hd
theorem zfw (l : List UInt8) : (⟨l.toArray⟩ : ByteArray).size = l.length := by simp [ByteArray.size]
theorem zde (l : List UInt8) : (⟨l.toArray⟩ : ByteArray).toList = l := by
 rw [ByteArray.toList_eq]
def RvO (w : World) (I : Nat → Prop) (β : Beta) : Option AV → Option Value → Prop
 | none, y => y = none
 | some x, y => ∃ v, y = some v ∧ Rv w I β x v
theorem zfb {x : Option AV} {y : Option Value} {c : Prop} {n d : Nat} (hr : RvO w I β x y) (h : optIdx d x = some (c, n)) (hc : c) :
 (y = none ∧ n = d) ∨ ∃ k i, y = some (.int k i) ∧ 0 ≤ i ∧ n = i.toNat := by
 unfold optIdx at h
 split at h
 ·cases h; cases hr; exact .inl ⟨rfl, rfl⟩
 ·cases h; obtain ⟨v, rfl, hv⟩ := hr; cases hv; exact .inr ⟨_, _, rfl, hc, rfl⟩
 ·cases h
theorem zfp (sl : Bool) (len cap : Nat) {lo hi : Option Value} {A B : Nat} (hlo : (lo = none ∧ A = 0) ∨ ∃ k i, lo = some (.int k i) ∧ 0 ≤ i ∧ A = i.toNat) (hhi : (hi = none ∧ B = len) ∨ ∃ k i, hi = some (.int k i) ∧ 0 ≤ i ∧ B = i.toNat)
 (h1 : A ≤ B) (h2 : B ≤ len) (h3 : len ≤ cap) : (Instr.sliceBounds sl len cap lo hi none).run P w = .ok (A, B, cap) w := by
 rcases hlo with ⟨rfl, rfl⟩ | ⟨k, i, rfl, hi0, rfl⟩ <;> rcases hhi with ⟨rfl, hB⟩ | ⟨k', i', rfl, hi0', hB⟩
 ·subst hB
  simp [Instr.sliceBounds]
 ·simp [Instr.sliceBounds, Instr.sliceBound, asIntOf, hi0', show i' ≤ (cap : Int) by omega, hB]
 ·subst hB
  have hle : i ≤ (B : Int) := by omega
  simp [Instr.sliceBounds, Instr.sliceBound, asIntOf, hi0, hle]
 ·have hle : i ≤ (i'.toNat : Int) := by omega
  have hle2 : i ≤ max i' 0 := by omega
  simp [Instr.sliceBounds, Instr.sliceBound, asIntOf, hi0, hi0', show i' ≤ (cap : Int) by omega, hB, hle2]
theorem zr9 (hC : Conc C st a w I β φ) {t : TypeId} {x v : AV} {lo hi : Option AV} {p : Value} {plo phi : Option Value} {c : Prop} {u : Ups} (hx : Rv w I β x p) (hlo : RvO w I β lo plo) (hhi : RvO w I β hi phi)
 (h : aSlice P st t x lo hi = some (c, v, u)) (hc : c) : Good P C st a w (Instr.sliceAt t p plo phi none) v u := by
 unfold aSlice at h
 split at h
 ·rename_i T x' hT
  split at h
  ·rename_i l hk
   have ht := zgl hT hk
   split at h
   ·rename_i c1 A c2 B h1 h2
    cases h
    obtain ⟨hc1, hc2, h3, h4⟩ := hc
    cases hx
    have hb := zfp (P := P) (w := w) false (⟨l.toArray⟩ : ByteArray).size (⟨l.toArray⟩ : ByteArray).size (zfb hlo h1 hc1) (by rw [zfw]; exact zfb hhi h2 hc2) h3 (by rw [zfw]; exact h4) (Nat.le_refl _)
    refine zby hC (y := .string ((⟨l.toArray⟩ : ByteArray).extract A B)) ?_ ?_
    ·simp [Instr.sliceAt, run_underlying ht, Instr.slice, hb]
    ·show Value.string _ = Value.string _
     congr 1
     apply ByteArray.ext
     simp [ByteArray.data_extract]
   ·cases h
  ·rename_i e sz xs hk
   have ht := zdh hT hk
   split at h
   ·rename_i E c1 A c2 B hE h1 h2
    obtain ⟨d', i', z', hd', hi', hz', rfl⟩ := zce hE
    cases h
    obtain ⟨hc1, hc2, h3, h4, h5⟩ := hc
    change RI w I (.sl sz xs) p at hx
    rw [RI] at hx
    obtain ⟨a', cap, rfl, hcap, hx⟩ := hx
    have hb := zfp (P := P) (w := w) true xs.length cap (zfb hlo h1 hc1) (zfb hhi h2 hc2) h3 h4 hcap
    have hlen : ((xs.drop A).take (B - A)).length = B - A := by simp; omega
    have h5' : i'.size = sz := h5
    refine zby hC (y := .slice (if cap = A then a' else a'.map (·.add (A * i'.size))) (B - A) (cap - A)) ?_ ?_
    ·simp [Instr.sliceAt, run_underlying ht, Instr.slice, hb, sizeOf, typeInfo, hi']
    ·show RI w I (.sl sz _) _
     rw [RI]
     refine ⟨_, _, by rw [hlen], by rw [hlen]; omega, ?_⟩
     rcases hx with rfl | ⟨b, o, rfl, hI, hr⟩
     ·simp
     ·by_cases hcA : cap = A
      ·have : xs.drop A = [] := by apply List.drop_eq_nil_of_le; omega
       simp [this]
      ·rw [if_neg hcA]
       refine .inr ⟨b, o + A * sz, ?_, hI, zd9 _ _ _ (zgy _ _ _ hr)⟩
       simp [Addr.add_lit, h5']
   ·cases h
  ·rename_i e n off len hk
   have ht := zdh hT hk
   split at h
   ·rename_i E c1 A c2 B hE h1 h2
    obtain ⟨d', i', z', hd', hi', hz', rfl⟩ := zce hE
    obtain ⟨bl, hb, hle, hp⟩ := hx
    have fin : i'.size = bl.sz → (c1 ∧ c2 ∧ A ≤ B ∧ B ≤ len) → Good P C st a w (Instr.sliceAt t p plo phi none) (.arr n (off + A) (B - A)) [] := by
     rintro hsz ⟨hc1, hc2, h3, h4⟩
     have key : ∀ a' cap, len ≤ cap → (Instr.sliceAt t (.slice a' len cap) plo phi none).run P w = .ok (.slice (if cap = A then a' else a'.map (·.add (A * i'.size))) (B - A) (cap - A)) w := by
      intro a' cap hcap
      have hb := zfp (P := P) (w := w) true len cap (zfb hlo h1 hc1) (zfb hhi h2 hc2) h3 h4 hcap
      simp [Instr.sliceAt, run_underlying ht, Instr.slice, hb, sizeOf, typeInfo, hi']
     rcases hp with rfl | ⟨h0, a0, rfl⟩
     ·refine zby hC (key _ _ (by omega)) ⟨bl, hb, by omega, ?_⟩
      by_cases hcA : bl.cap - off = A
      ·rw [if_pos hcA]
       refine .inr ⟨by omega, some ⟨bl.b, bl.o + off * bl.sz, none⟩, ?_⟩
       congr 1 <;> omega
      ·rw [if_neg hcA]
       refine .inl ?_
       simp only [Option.map_some, Addr.add_lit, hsz, Nat.add_mul, Nat.add_assoc]
       congr 1; omega
     ·have hA : A = 0 := by omega
      have hB : B = 0 := by omega
      subst hA; subst hB
      have h00 := key a0 0 (by omega)
      have hl0 : len = 0 := by omega
      subst hl0
      refine zby hC h00 ⟨bl, hb, by omega, .inr ⟨by omega, a0, by simp⟩⟩
    split at h
    ·rename_i sz xs hob
     cases h
     obtain ⟨bl', hb', h1', -⟩ := hC.ob _ _ hob
     rw [hb] at hb'; cases hb'
     exact fin (hc.2.2.2.2.trans h1'.symm) ⟨hc.1, hc.2.1, hc.2.2.1, hc.2.2.2.1⟩
    ·rename_i sz xs hob
     cases h
     obtain ⟨bl', hb', h1', -⟩ := hC.ob _ _ hob
     rw [hb] at hb'; cases hb'
     exact fin (hc.2.2.2.2.trans h1'.symm) ⟨hc.1, hc.2.1, hc.2.2.1, hc.2.2.2.1⟩
    ·rename_i sz xs hob
     cases h
     obtain ⟨bl', hb', h1', -⟩ := hC.ob _ _ hob
     rw [hb] at hb'; cases hb'
     exact fin (hc.2.2.2.2.trans h1'.symm) ⟨hc.1, hc.2.1, hc.2.2.1, hc.2.2.2.1⟩
    ·cases h
   ·cases h
  ·cases h
 ·cases h
end
end Go.Proofs.Ytmheohnbkaoipaa.Vs
end
section
namespace Go.Proofs.Ytmheohnbkaoipaa.Vs
set_option linter.all false
open Go.RowKit
variable {P : Program}
section
variable {C : Cx} {st : St} {a : Act} {w : World} {I : Nat → Prop} {β : Beta} {φ : Nat → List Nat}
theorem zp6 (hC : Conc C st a w I β φ) {op : BinOp} {k : IntKind} {x y : Int} {v : AV} {c : Prop} {u : Ups} (h : aIntBin op k x y = some (c, v, u)) (hc : c) (t : TypeId) (hs : op ≠ .shl ∧ op ≠ .shr) :
 Good P C st a w (binOp op t (.int k x) (.int k y)) v u := by
 cases op <;> simp only [aIntBin, Option.some.injEq, Prod.mk.injEq, reduceCtorEq] at h <;> (try (exact absurd rfl hs.1)) <;> (try (exact absurd rfl hs.2)) <;> obtain ⟨rfl, rfl, rfl⟩ := h
 ·exact zby hC (y := .int k (k.wrap (x + y))) (by simp [binOp, Op.intArith]) rfl
 ·exact zby hC (y := .int k (k.wrap (x - y))) (by simp [binOp, Op.intArith]) rfl
 ·exact zby hC (y := .int k (k.wrap (x * y))) (by simp [binOp, Op.intArith]) rfl
 ·exact zby hC (y := .int k (k.wrap (x.tdiv y))) (by simp [binOp, Op.intDiv, hc]) rfl
 ·exact zby hC (y := .int k (x.tmod y)) (by simp [binOp, Op.intDiv, hc]) rfl
 ·exact zby hC (y := .int k (k.wrap (BitVec.ofInt k.bits x &&& BitVec.ofInt k.bits y).toNat)) (by simp only [binOp, Op.intBits, ne_eq, not_true_eq_false, if_false]; rfl) rfl
 ·exact zby hC (y := .int k (k.wrap (BitVec.ofInt k.bits x ||| BitVec.ofInt k.bits y).toNat)) (by simp only [binOp, Op.intBits, ne_eq, not_true_eq_false, if_false]; rfl) rfl
 ·exact zby hC (y := .int k (k.wrap (BitVec.ofInt k.bits x ^^^ BitVec.ofInt k.bits y).toNat)) (by simp only [binOp, Op.intBits, ne_eq, not_true_eq_false, if_false]; rfl) rfl
 ·exact zby hC (y := .bool (x == y)) (by simp [binOp, Op.intCmp]) rfl
 ·exact zby hC (y := .bool (x != y)) (by simp [binOp, Op.intCmp]) rfl
 ·exact zby hC (y := .bool (decide (x < y))) (by simp [binOp, Op.intCmp]) rfl
 ·exact zby hC (y := .bool (decide (x ≤ y))) (by simp [binOp, Op.intCmp]) rfl
 ·exact zby hC (y := .bool (decide (x > y))) (by simp [binOp, Op.intCmp]) rfl
 ·exact zby hC (y := .bool (decide (x ≥ y))) (by simp [binOp, Op.intCmp]) rfl
theorem zp7 (hC : Conc C st a w I β φ) {op : BinOp} {x y : List UInt8} {v : AV} {c : Prop} {u : Ups} (h : aStrBin op x y = some (c, v, u)) (hc : c) (t : TypeId) :
 Good P C st a w (binOp op t (.string ⟨x.toArray⟩) (.string ⟨y.toArray⟩)) v u := by
 have hrun : binOp op t (.string ⟨x.toArray⟩) (.string ⟨y.toArray⟩) = Op.stringOp op ⟨x.toArray⟩ ⟨y.toArray⟩ := by cases op <;> rfl
 rw [hrun]
 cases op <;> simp only [aStrBin, Option.some.injEq, Prod.mk.injEq, reduceCtorEq] at h <;> obtain ⟨rfl, rfl, rfl⟩ := h
 ·refine zby hC (y := .string (⟨x.toArray⟩ ++ ⟨y.toArray⟩)) ?_ ?_
  ·have : ¬ (((x.length + y.length : Nat) : Int) > IntKind.i64.max) := by
    have : IntKind.i64.max = 9223372036854775807 := by decide
    omega
   simp [Op.stringOp, zfw] at this ⊢
   omega
  ·show Value.string _ = Value.string _
   congr 1
 ·exact zby hC (y := .bool (x == y)) (by simp [Op.stringOp, zde]) rfl
 ·exact zby hC (y := .bool (!(x == y))) (by simp [Op.stringOp, zde]) rfl
 ·exact zby hC (y := .bool (Op.bytesLess x y)) (by simp [Op.stringOp, zde]) rfl
 ·exact zby hC (y := .bool (Op.bytesLess x y || x == y)) (by simp [Op.stringOp, zde]) rfl
 ·exact zby hC (y := .bool (!(Op.bytesLess x y || x == y))) (by simp [Op.stringOp, zde]) rfl
 ·exact zby hC (y := .bool (!Op.bytesLess x y)) (by simp [Op.stringOp, zde]) rfl
theorem zjr {t : TypeId} (ht : P.underlying t = some .bool) (x y : Bool) : (binOp .eql t (.bool x) (.bool y)).run P w = .ok (.bool (x == y)) w ∧ (binOp .neq t (.bool x) (.bool y)).run P w = .ok (.bool (!(x == y))) w := by
 have h : (Op.equal t (.bool x) (.bool y)).run P w = .ok (x == y) w := by
  unfold Op.equal Op.maxDepth
  rw [show (10000 : Nat) = 9999 + 1 from rfl]
  unfold Op.equalIn
  simp [run_underlying ht]
 constructor <;> simp [binOp, h]
theorem znw {t : TypeId} (h : eq2 P t = true) : ∃ f g kf kg i j, P.underlying t = some (.struct #[f, g]) ∧ f.name ≠ "_" ∧ g.name ≠ "_" ∧ f.offset = 0 ∧ g.offset = 1 ∧ P.underlying f.type = some (.int kf) ∧ P.underlying g.type = some (.int kg) ∧
 P.info? f.type = some i ∧ P.info? g.type = some j ∧ P.stoodInHeld t = false ∧ P.eqGuardType P.depth t = false := by
 unfold eq2 at h
 simp only [Bool.and_eq_true, Bool.not_eq_true'] at h
 obtain ⟨⟨h1, h2⟩, h3⟩ := h
 split at h1
 ·rename_i fs hu
  split at h1
  ·rename_i f g hfs
   simp only [Bool.and_eq_true, bne_iff_ne, beq_iff_eq] at h1
   obtain ⟨⟨⟨⟨h4, h5⟩, h6⟩, h7⟩, h8⟩ := h1
   split at h8
   ·rename_i kf kg i j h9 h10 h11 h12
    have : fs = #[f, g] := by apply Array.ext'; exact hfs
    subst this
    exact ⟨f, g, kf, kg, i, j, hu, h4, h5, h6, h7, h9, h10, h11, h12, h2, h3⟩
   ·cases h8
  ·cases h1
 ·cases h1
theorem zg7 {t : TypeId} (h : eq2 P t = true) (k l : IntKind) (x y z u : Int) :
 (binOp .eql t (.agg #[.int k x, .int l y]) (.agg #[.int k z, .int l u])).run P w = .ok (.bool (x == z && y == u)) w ∧
 (binOp .neq t (.agg #[.int k x, .int l y]) (.agg #[.int k z, .int l u])).run P w = .ok (.bool (!(x == z && y == u))) w := by
 obtain ⟨f, g, kf, kg, i, j, hu, h1, h2, h3, h4, h5, h6, h7, h8, h9, h10⟩ := znw h
 have hE : (Op.equal t (.agg #[.int k x, .int l y]) (.agg #[.int k z, .int l u])).run P w = .ok (x == z && y == u) w := by
  have e1 : ∀ (d : Nat) (T : TypeId) (kk : IntKind) (k : IntKind) (p q : Int), P.underlying T = some (.int kk) → (Op.equalIn (d + 1) T (.int k p) (.int k q)).run P w = .ok (p == q) w := by
   intro d T kk k p q hT
   simp [Op.equalIn, run_underlying hT]
  have p1 : ∀ (cs : Array Value) (T : TypeId) (kk : IntKind) (o : Nat) (v : Value), P.underlying T = some (.int kk) → cs[o]? = some v → (part T cs o).run P w = .ok v w := by
   intro cs T kk o v hT hv
   simp [part, isAgg, run_underlying hT, hv]
  have q1 := p1 #[.int k x, .int l y] f.type kf 0 _ h5 rfl
  have q2 := p1 #[.int k z, .int l u] f.type kf 0 _ h5 rfl
  have q3 := p1 #[.int k x, .int l y] g.type kg 1 _ h6 rfl
  have q4 := p1 #[.int k z, .int l u] g.type kg 1 _ h6 rfl
  unfold Op.equal Op.maxDepth
  rw [show (10000 : Nat) = 9998 + 1 + 1 from rfl]
  unfold Op.equalIn
  simp only [Sem.run_bind, run_underlying hu, Result.andThen_ok, run_program, h9]
  simp [h1, h2, h3, h4, q1, q2, q3, q4, e1 9998 f.type kf k x z h5, e1 9998 g.type kg l y u h6]
  by_cases e3 : x = z <;> by_cases e4 : y = u <;> simp [e3, e4]
 constructor
 ·simp [binOp, hE]
 ·simp [binOp, hE]
end
end Go.Proofs.Ytmheohnbkaoipaa.Vs
end
section
namespace Go.Proofs.Ytmheohnbkaoipaa.Vs
set_option linter.all false
open Go.RowKit
variable {P : Program}
def GoodOp (P : Program) (C : Cx) (st : St) (a : Act) (w : World) (o : Oper) (v : AV) (u : Ups) : Prop :=
 ∃ y w' I' β' φ', ((execOp a.eval o).run P w = .ok (.value y) w' ∨ ((execOp a.eval o).run P w = .ok .skip w' ∧ y = undef)) ∧ Rv w' I' β' v y ∧ Conc C { st with ob := updL st.ob u } a w' I' β' φ'
section
variable {C : Cx} {st : St} {a : Act} {w : World} {I : Nat → Prop} {β : Beta} {φ : Nat → List Nat}
theorem Good.op {s : Sem Value} {o : Oper} {v : AV} {u : Ups} (h : Good P C st a w s v u) (ho : execOp a.eval o = (do pure (.value (← s)) : Sem Next)) : GoodOp P C st a w o v u := by
 obtain ⟨y, w', I', β', φ', h1, h2, h3⟩ := h
 refine ⟨y, w', I', β', φ', .inl ?_, h2, h3⟩
 rw [ho]
 simp [h1]
theorem zcn (hC : Conc C st a w I β φ) {o : Oper} {v : AV} {y : Value} (ho : (execOp a.eval o).run P w = .ok (.value y) w) (hv : Rv w I β v y) : GoodOp P C st a w o v [] :=
 ⟨y, w, I, β, φ, .inl ho, hv, hC⟩
theorem znx (hE : ∀ x, Rv w I β (ev st x) (a.eval x)) : ∀ (l : List Operand), (∀ x ∈ l, (match ev st x with | .g _ | .s _ | .sl .. | .arr .. | .ptr .. | .eptr .. | .ip _ | .undef => true | _ => false) = true) → Rv0s w I β (l.map (ev st)) (l.map a.eval)
 | [], _ => rfl
 | x :: l, h => by
  refine ⟨_, _, rfl, ?_, znx hE l fun y hy => h y (by simp [hy])⟩
  have h1 := h x (by simp)
  have h2 := hE x
  generalize ev st x = v at *
  cases v <;> first | exact h2 | simp at h1
theorem zxk (hC : Conc C st a w I β φ) {op : BinOp} {t : TypeId} {x y v : AV} {p q : Value} {c : Prop} {u : Ups} (hx : Rv w I β x p) (hy : Rv w I β y q) (ox oy : Operand)
 (h : aBin P op t x y = some (c, v, u)) (hc : c) : Good P C st a w (do eqGuard op t ox oy p q; binOp op t p q) v u := by
 have guard1 : ∀ (p q : Value), (∀ xs ys, ¬ (p = .agg xs ∧ q = .agg ys)) → ¬ (p = .nilIface ∧ q = .nilIface) → (eqGuard op t ox oy p q).run P w = .ok () w := by
  intro p q h1 h2
  unfold eqGuard
  by_cases hop : (!(match op with | .eql | .neq => true | _ => false)) = true
  ·cases op <;> simp at hop <;> simp
  ·cases op <;> simp at hop <;> (cases p <;> cases q <;> first | (exact absurd ⟨rfl, rfl⟩ h2) | (exact absurd ⟨rfl, rfl⟩ (h1 _ _)) | simp)
 have lift : ∀ {s : Sem Value}, (eqGuard op t ox oy p q).run P w = .ok () w → Good P C st a w s v u → s = binOp op t p q → Good P C st a w (do eqGuard op t ox oy p q; binOp op t p q) v u := by
  rintro s hg ⟨y, w', I', β', φ', h1, h2, h3⟩ rfl
  exact ⟨y, w', I', β', φ', by simp [hg, h1], h2, h3⟩
 unfold aBin at h
 split at h
 ·cases h; cases hx; cases hy
  rename_i k x l y
  refine lift (guard1 _ _ (by simp) (by simp)) (zby hC (y := .int k (k.wrap (x * 2 ^ (min y.toNat k.bits)))) ?_ rfl) rfl
  simp [binOp, Op.shift, show ¬ y < 0 by omega]
 ·cases h; cases hx; cases hy
  rename_i k x l y
  refine lift (guard1 _ _ (by simp) (by simp)) (zby hC (y := .int k (x.fdiv (2 ^ (min y.toNat k.bits)))) ?_ rfl) rfl
  simp [binOp, Op.shift, show ¬ y < 0 by omega]
 ·rename_i k x k' y h1 h2
  cases hx; cases hy
  split at h
  ·rename_i hk
   subst hk
   exact lift (guard1 _ _ (by simp) (by simp)) (zp6 hC h hc t ⟨fun e => by subst e; simp at h1, fun e => by subst e; simp at h2⟩) rfl
  ·cases h
 ·cases hx; cases hy
  exact lift (guard1 _ _ (by simp) (by simp)) (zp7 hC h hc t) rfl
 ·cases hx; cases hy
  split at h
  ·rename_i ht
   cases h
   exact lift (guard1 _ _ (by simp) (by simp)) (zby hC (zjr ht _ _).1 rfl) rfl
  ·cases h
 ·cases hx; cases hy
  split at h
  ·rename_i ht
   cases h
   exact lift (guard1 _ _ (by simp) (by simp)) (zby hC (zjr ht _ _).2 rfl) rfl
  ·cases h
 ·rename_i k x l y k' z l' u'
  split at h
  ·rename_i hk
   cases h
   simp only [Bool.and_eq_true, decide_eq_true_eq] at hk
   obtain ⟨⟨he, rfl⟩, rfl⟩ := hk
   obtain ⟨_, rfl, _, _, rfl, h1, _, _, rfl, h2, rfl⟩ := hx
   obtain ⟨_, rfl, _, _, rfl, h3, _, _, rfl, h4, rfl⟩ := hy
   cases h1; cases h2; cases h3; cases h4
   have hs := zg7 (P := P) (w := w) he k l x y z u'
   obtain ⟨f, g, kf, kg, i, j, hu, -, -, -, -, -, -, -, -, -, hgt⟩ := znw he
   refine lift ?_ (zby hC hs.1 rfl) rfl
   simp [eqGuard, hgt]
  ·cases h
 ·rename_i k x l y k' z l' u'
  split at h
  ·rename_i hk
   cases h
   simp only [Bool.and_eq_true, decide_eq_true_eq] at hk
   obtain ⟨⟨he, rfl⟩, rfl⟩ := hk
   obtain ⟨_, rfl, _, _, rfl, h1, _, _, rfl, h2, rfl⟩ := hx
   obtain ⟨_, rfl, _, _, rfl, h3, _, _, rfl, h4, rfl⟩ := hy
   cases h1; cases h2; cases h3; cases h4
   have hs := zg7 (P := P) (w := w) he k l x y z u'
   obtain ⟨f, g, kf, kg, i, j, hu, -, -, -, -, -, -, -, -, -, hgt⟩ := znw he
   refine lift ?_ (zby hC hs.2 rfl) rfl
   simp [eqGuard, hgt]
  ·cases h
 ·cases h
theorem un_sound (hC : Conc C st a w I β φ) {op : UnOp} {x v : AV} {p : Value} {c : Prop} {u : Ups} (hx : Rv w I β x p) (h : aUn op x = some (c, v, u)) :
 Good P C st a w (Op.unary op p) v u := by
 unfold aUn at h
 split at h
 ·cases h; cases hx
  exact zby hC (y := .bool (!_)) (by simp [Op.unary]) rfl
 ·cases h; cases hx
  rename_i k n
  exact zby hC (y := .int k (k.wrap (0 - n))) (by simp [Op.unary, Op.intArith]) rfl
 ·cases h; cases hx
  rename_i k n
  exact zby hC (y := .int k (k.wrap (BitVec.ofInt k.bits (if k.signed then -1 else k.max) ^^^ BitVec.ofInt k.bits n).toNat)) (by simp only [Op.unary, Op.intBits]; rfl) rfl
 ·cases h
theorem zk1 : ∀ (ys : List (List AV)) (ns : List Int), numsOf ys = some ns → ys = ns.map fun n => [.g (.int .u8 n)]
 | [], ns, h => by cases h; rfl
 | x :: r, ns, h => by
  unfold numsOf at h
  split at h
  ·rename_i heq; cases heq
  ·rename_i n r' heq
   cases heq
   obtain ⟨ns', h1, rfl⟩ := Option.map_eq_some_iff.1 h
   rw [zk1 _ ns' h1]; rfl
  ·cases h
theorem zv9 (hC : Conc C st a w I β φ) {s d : TypeId} {x v : AV} {p : Value} {c : Prop} {u : Ups} (hx : Rv w I β x p) (h : aConv P st s d x = some (c, v, u)) (hcc : c) :
 Good P C st a w (convert s d p) v u := by
 unfold aConv at h
 split at h
 ·rename_i S D k n hS hD
  split at h
  ·rename_i k1 k2 h1 h2
   cases h; cases hx
   have hs := zts hS h1
   have hd := zts hD h2
   exact zby hC (y := .int k2 (k2.wrap n)) (by simp [convert, run_underlying hs, run_underlying hd, Conv.intToInt]) rfl
  ·cases h
 ·rename_i S D l hS hD
  split at h
  ·rename_i h1 h2
   cases h; cases hx
   have hs := zgl hS h1
   have hd := zgl hD h2
   exact zby hC (y := .string ⟨l.toArray⟩) (by simp [convert, run_underlying hs, run_underlying hd]) rfl
  ·cases h
 ·rename_i S D x' hS hD _ _
  split at h
  ·rename_i e h1 h2
   split at h
   ·rename_i E q ys hE hn
    split at h
    ·rename_i ns h3 h4
     cases h
     have hs := zdh hS h1
     have hd := zgl hD h2
     have he := zts hE h3
     have hys := zk1 _ _ h4
     rcases zht hC hn hcc hx with ⟨rfl, a', cap, rfl⟩ | ⟨b, o, cap, rfl, hr⟩
     ·have hns : ns = [] := by
       cases ns with
       | nil => rfl
       | cons _ _ => simp at hys
      subst hns
      refine zby hC (y := .string ⟨#[]⟩) ?_ rfl
      rw [run_convert_bytes_string w s d e a' 0 cap hs he hd]
      cases a' with
      | none => simp [Conv.bytesToString]; rfl
      | some a' =>
       have hl := run_loadCells_list (P := P) w a' [] (fun j v hj => by simp at hj)
       have := run_bytesToString (P := P) w a' 0 cap [] (by simpa using hl)
       rw [this]; rfl
     ·refine zby hC (y := .string (strOfNums ns)) ?_ rfl
      have hlen : ns.length = ys.length := by rw [hys]; simp
      refine run_convert_bytes_arg w s e hs he b o ys.length cap ns hlen ?_ d hd
      intro i hi
      obtain ⟨-, g2⟩ := zh6 ys o i ys[i] hr (List.getElem?_eq_getElem hi)
      have hi2 : i < ns.length := by omega
      have hyi : ys[i] = [.g (.int .u8 (ns.getD i 0))] := by
       have : ys[i]? = (ns.map fun n => [AV.g (.int .u8 n)])[i]? := by rw [← hys]
       rw [List.getElem?_eq_getElem hi, List.getElem?_map, List.getElem?_eq_getElem hi2] at this
       simp only [Option.map_some, Option.some.injEq] at this
       rw [this]
       simp [List.getD, List.getElem?_eq_getElem hi2]
      rw [hyi] at g2
      rw [RIc] at g2
      obtain ⟨⟨z, hz, hrz⟩, -⟩ := g2
      rw [RI] at hrz
      rw [← hrz.1]
      simpa using hz
    ·cases h
   ·cases h
  ·cases h
 ·cases h
end
end Go.Proofs.Ytmheohnbkaoipaa.Vs
namespace Go.Proofs.Ytmheohnbkaoipaa.Vs
set_option linter.all false
open Go.RowKit
variable {P : Program}
section
variable {C : Cx} {st : St} {a : Act} {w : World} {I : Nat → Prop} {β : Beta} {φ : Nat → List Nat}
theorem zds (hC : Conc C st a w I β φ) {nm : Nat} {o : Oper} {v : AV} {c : Prop} {u : Ups} (h : aop P st nm o.op = some (c, v, u)) (hc : c) : GoodOp P C st a w o v u := by
 have hE : ∀ x, Rv w I β (ev st x) (a.eval x) := zfl hC.env
 have hun : ∀ (n : Nat), (st.ob n).isNone = true → st.ob n = none := fun n h => by simpa using h
 obtain ⟨dst, op, type, pos, aft, gd⟩ := o
 simp only at h
 unfold aop at h
 split at h
 ·cases h; exact zcn hC (by simp [execOp]) (hE _)
 ·cases h; exact zcn hC (by simp [execOp]) (hE _)
 · -- pick
  rename_i cc x y
  split at h
  ·rename_i b hb
   cases h
   have h1 := hE cc
   rw [hb] at h1
   change a.eval cc = _ at h1
   cases b
   ·exact zcn hC (by simp [execOp, h1, asBool]) (hE y)
   ·exact zcn hC (by simp [execOp, h1, asBool]) (hE x)
  ·cases h
 · -- alloc
  split at h
  ·rename_i T hT
   cases h
   exact (zr2 hC hT (hun _ hc.1)).op rfl
  ·cases h
 · -- box
  rename_i t x
  split at h
  ·rename_i T cs hT hcs
   cases h
   have hx := hE x
   have hr : Rv1s w I β cs (a.eval x).cells.toList := (zcy hcs hx hc.2).1
   exact (zjp (P := P) hC (hun _ hc.1) t (a.eval x) hr).op rfl
  ·cases h
 ·exact (zr5 hC (by simpa using zhr hE _) h).op rfl
 ·exact (zju hC (by simpa using zhr hE _) h hc).op rfl
 · -- load
  obtain ⟨rfl, y, hy, hr⟩ := zmr hC (hE _) h hc
  exact zcn hC (by simp [execOp, hy]) hr
 · -- store
  obtain ⟨rfl, w', I', φ', hr, hC'⟩ := zr4 hC (hE _) (hE _) h hc
  exact ⟨undef, w', I', β, φ', .inr ⟨by simp [execOp, hr], rfl⟩, rfl, hC'⟩
 · -- nilCheck
  rename_i x
  have hx := hE x
  split at h
  ·rename_i hv
   cases h
   rw [hv] at hx
   obtain ⟨bl, hb, hp⟩ := hx
   exact zcn hC (by simp [execOp, hp]) ⟨bl, hb, rfl⟩
  ·rename_i hv
   cases h
   rw [hv] at hx
   obtain ⟨bl, hb, hp⟩ := hx
   exact zcn hC (by simp [execOp, hp]) ⟨bl, hb, rfl⟩
  ·rename_i hv
   cases h
   rw [hv] at hx
   obtain ⟨b, o, hp, hr⟩ := hx
   exact zcn hC (by simp [execOp, hp]) ⟨b, o, rfl, hr⟩
  ·rename_i hv
   cases h
   rw [hv] at hx
   obtain ⟨vs, us, hp, hr⟩ := hx
   exact zcn hC (by simp [execOp, hp]) ⟨vs, us, rfl, hr⟩
  ·cases h
 ·exact (zxk hC (hE _) (hE _) _ _ h hc).op rfl
 ·exact (un_sound hC (hE _) h).op rfl
 ·exact (zv9 hC (hE _) h hc).op rfl
 · -- makeFunc
  rename_i f first captured
  cases h
  have h1 := znx hE first.toList (fun x hx => List.all_eq_true.1 hc.1 _ (List.mem_map_of_mem hx))
  have h2 := znx hE captured.toList (fun x hx => List.all_eq_true.1 hc.2 _ (List.mem_map_of_mem hx))
  exact zcn hC (y := .func (.func f) (first.map a.eval) (captured.map a.eval)) (by simp [execOp, Instr.makeFunc]) ⟨_, _, by congr 1 <;> (apply Array.ext'; simp), h1, h2⟩
 ·exact (zkw hC (hE _) (hE _) h hc).op rfl
 · -- slice
  have hO : ∀ x : Option Operand, RvO w I β (x.map (ev st)) (x.map a.eval) := by
   intro x
   cases x with
   | none => rfl
   | some x => exact ⟨_, rfl, hE x⟩
  exact (zr9 hC (hE _) (hO _) (hO _) h hc).op rfl
 ·exact (zkz hC (hE _) h).op rfl
 ·exact (zr7 hC (hE _) h).op rfl
 ·exact (zky hC (hE _) (hE _) h hc).op rfl
 ·exact (zr8 hC (hE _) (hE _) h hc).op rfl
 · -- extract
  rename_i x i
  have hx := hE x
  split at h
  ·rename_i vs hv
   rw [hv] at hx
   obtain ⟨ws, hp, hr⟩ := hx
   split at h
   ·rename_i y hy
    cases h
    have : ∀ (vs : List AV) (ws : List Value) (i : Nat), Rv2s w I β vs ws → vs[i]? = some v → ∃ z, ws[i]? = some z ∧ Rv2 w I β v z := by
     intro vs
     induction vs with
     | nil => intro ws i _ h; simp at h
     | cons c cs ih =>
      rintro _ i ⟨z, zs, rfl, h1, h2⟩ h
      cases i with
      | zero => simp at h; subst h; exact ⟨z, rfl, h1⟩
      | succ i => simpa using ih zs i h2 (by simpa using h)
    obtain ⟨z, hz, hrz⟩ := this _ _ _ hr hy
    exact zcn hC (y := z) (by simp [execOp, hp, Instr.extract, hz]) (zhp _ _ hrz)
   ·cases h
  ·cases h
 ·cases h
end
end Go.Proofs.Ytmheohnbkaoipaa.Vs
end
section
namespace Go.Proofs.Ytmheohnbkaoipaa.Vs
set_option linter.all false
open Go.RowKit
variable {P : Program}
section
variable {C : Cx} {st : St} {a : Act} {w : World} {I : Nat → Prop} {β : Beta} {φ : Nat → List Nat}
theorem zsa {α β : Type} {f : α → β} {l : List α} {x : β} (h : l.map f = [x]) : ∃ a, l = [a] ∧ f a = x := by
 match l, h with
 | [a], h => exact ⟨a, rfl, by simpa using h⟩
theorem zk2 {α β : Type} {f : α → β} {l : List α} {x y : β} (h : l.map f = [x, y]) : ∃ a b, l = [a, b] ∧ f a = x ∧ f b = y := by
 match l, h with
 | [a, b], h => exact ⟨a, b, rfl, by simpa using h⟩
theorem zfc (hC : Conc C st a w I β φ) {nm : Nat} {b : Builtin} {ts : List TypeId} {args : List Operand} {o : Oper} {v : AV} {c : Prop} {u : Ups} {tsA : Array TypeId} {argsA : Array Operand} (hts : tsA.toList = ts) (hargs : argsA.toList = args)
 (ho : o.op = .call { callee := .builtin b, args := argsA, argTypes := tsA }) (h : aBuiltin P st nm b ts (args.map (ev st)) = some (c, v, u)) (hc : c) : GoodOp P C st a w o v u := by
 have hE : ∀ x, Rv w I β (ev st x) (a.eval x) := zfl hC.env
 obtain ⟨dst, op, type, pos, aft, gd⟩ := o
 simp only at ho
 subst ho
 generalize hL : args.map (ev st) = L at h
 unfold aBuiltin at h
 split at h
 · -- len
  rename_i x
  obtain ⟨y, rfl, hx⟩ := zsa hL
  have ha : argsA = #[y] := by apply Array.ext'; exact hargs
  subst ha
  have hy := hE y
  rw [hx] at hy
  unfold aLen at h
  split at h
  ·rename_i t
   have htA : tsA = #[t] := by apply Array.ext'; exact hts
   subst htA
   have fin : ∀ (n : Nat) (p : Value), a.eval y = p → (Builtin.len_ #[t] type #[p]).run P w = .ok (.int .i64 n) w → GoodOp P C st a w ⟨dst, .call { callee := .builtin .len, args := #[y], argTypes := #[t] }, type, pos, aft, gd⟩ (.g (.int .i64 n)) [] := by
    rintro n p rfl hr
    exact zcn hC (by simp [execOp, resolve, invoke, builtin, hr]) rfl
   split at h
   ·rename_i T hT
    generalize hK : T.kind = K at h
    split at h
    ·have ht := zgl hT hK
     cases h
     exact fin _ _ hy (by simp [Builtin.len_, run_underlying ht, goInt, zfw])
    ·have ht := zdh hT hK
     cases h
     obtain ⟨bl, hb, hle, hp | ⟨h0, a0, hp⟩⟩ := hy
     ·exact fin _ _ hp (by simp [Builtin.len_, run_underlying ht, goInt])
     ·refine fin _ _ hp ?_
      simp [Builtin.len_, run_underlying ht, goInt]
      omega
    ·have ht := zdh hT hK
     cases h
     change RI w I (.sl _ _) _ at hy
     rw [RI] at hy
     obtain ⟨a', cap, hp, -⟩ := hy
     exact fin _ _ hp (by simp [Builtin.len_, run_underlying ht, goInt])
    ·have ht := zdh hT hK
     cases h
     exact fin _ _ hy (by simp [Builtin.len_, run_underlying ht, goInt])
    ·have ht := ti_array hT hK
     cases h
     exact fin _ _ rfl (by simp [Builtin.len_, run_underlying ht, goInt])
    ·cases h
   ·cases h
  ·cases h
 · -- append
  rename_i s x
  obtain ⟨y, z, rfl, rfl, rfl⟩ := zk2 hL
  have ha : argsA = #[y, z] := by apply Array.ext'; exact hargs
  subst ha
  have := (zp4 (ty := type) hC (hE y) (hE z) h hc)
  have htA : tsA = ts.toArray := by apply Array.ext'; simpa using hts
  rw [← htA] at this
  exact this.op (by simp [execOp, resolve, invoke, builtin])
 ·rename_i x y
  obtain ⟨p, q, rfl, h1', h2'⟩ := zk2 hL
  have ha : argsA = #[p, q] := by apply Array.ext'; exact hargs
  subst ha
  have h1 := hE p; have h2 := hE q
  rw [h1'] at h1; rw [h2'] at h2
  change a.eval p = _ at h1; change a.eval q = _ at h2
  cases h
  exact zcn hC (y := .int .i64 (if y > x then y else x)) (by simp [execOp, resolve, invoke, builtin, h1, h2, Builtin.max_, Builtin.max2]) rfl
 ·rename_i x y
  obtain ⟨p, q, rfl, h1', h2'⟩ := zk2 hL
  have ha : argsA = #[p, q] := by apply Array.ext'; exact hargs
  subst ha
  have h1 := hE p; have h2 := hE q
  rw [h1'] at h1; rw [h2'] at h2
  change a.eval p = _ at h1; change a.eval q = _ at h2
  cases h
  exact zcn hC (y := .int .i64 (if y < x then y else x)) (by simp [execOp, resolve, invoke, builtin, h1, h2, Builtin.min_, Builtin.min2]) rfl
 ·cases h
end
end Go.Proofs.Ytmheohnbkaoipaa.Vs
end

import Derived.Test.YtmheohnbkaoipaaVs2
section
namespace Go.Proofs.Ytmheohnbkaoipaa.Vs
set_option linter.all false
open Go.RowKit
variable {P : Program}
def R1 (w : World) (I : Nat → Prop) (β : Beta) (c : AV) (v : Value) : Prop := Rv1 w I β c v ∧ v.oneCell' = true
theorem zfq {w w' : World} {I I' : Nat → Prop} {β β' : Beta} (hI : ∀ b, I b → I' b) (hw : ∀ b, I b → w'.heap[b]? = w.heap[b]?) (hβ : ∀ n bl, β n = some bl → β' n = some bl) (c : AV) (v : Value) (h : R1 w I β c v) : R1 w' I' β' c v := ⟨zdc hI hw hβ c v h.1, h.2⟩
theorem zdx {w : World} {I : Nat → Prop} {β : Beta} {b : Nat} : ∀ (cs : List AV) (o : Nat), RJc w I β b o cs ↔ ∀ (j : Nat) c, cs[j]? = some c → ∃ v, w.cell? ⟨b, o + j, none⟩ = some v ∧ R1 w I β c v
 | [], _ => by simp [RJc]
 | c :: cs, o => by
  constructor
  ·rintro ⟨⟨v, h1, h2⟩, h3⟩ j d hd
   cases j with
   | zero => simp at hd; subst hd; exact ⟨v, by simpa using h1, h2⟩
   | succ j => have := (zdx cs (o + 1)).1 h3 j d (by simpa using hd); rwa [show o + 1 + j = o + (j + 1) by omega] at this
  ·intro h
   refine ⟨?_, (zdx cs (o + 1)).2 fun j d hd => ?_⟩
   ·obtain ⟨v, h1, h2⟩ := h 0 c rfl; exact ⟨v, by simpa using h1, h2⟩
   ·have := h (j + 1) d (by simpa using hd); rwa [show o + (j + 1) = o + 1 + j by omega] at this
theorem zge {w : World} {I : Nat → Prop} {β : Beta} {b sz : Nat} : ∀ (xs : List (List AV)) (o : Nat), RJe w I β b sz o xs ↔ ∀ (i : Nat) x, xs[i]? = some x → x.length = sz ∧ RJc w I β b (o + i * sz) x
 | [], _ => by simp [RJe]
 | x :: xs, o => by
  constructor
  ·intro h i y hy; exact zhi _ _ _ _ h hy
  ·intro h
   refine ⟨(h 0 x rfl).1, by simpa using (h 0 x rfl).2, (zge xs (o + sz)).2 fun i y hy => ?_⟩
   have := h (i + 1) y (by simpa using hy)
   rwa [show o + (i + 1) * sz = o + sz + i * sz by rw [Nat.add_mul]; omega] at this
theorem zfx {w : World} {I : Nat → Prop} {β : Beta} {b sz : Nat} : ∀ (xs : List (List AV)) (o : Nat), RJe w I β b sz o xs →
 ∃ vs : List Value, vs.length = xs.length * sz ∧ (∀ (j : Nat) v, vs[j]? = some v → w.cell? ⟨b, o + j, none⟩ = some v) ∧ (∀ v ∈ vs, v.oneCell' = true) ∧
  ∀ (i : Nat) x, xs[i]? = some x → x.length = sz ∧ ∀ (j : Nat) c, x[j]? = some c → ∃ v, vs[i * sz + j]? = some v ∧ R1 w I β c v
 | [], o, _ => ⟨[], by simp, by simp, by simp, by simp⟩
 | x :: xs, o, h => by
  obtain ⟨h1, h2, h3⟩ := h
  obtain ⟨vs, hl, hc, ho, hx⟩ := zfx xs (o + sz) h3
  have hcs : ∀ (cs : List AV) (o : Nat), RJc w I β b o cs → ∃ us : List Value, us.length = cs.length ∧ (∀ (j : Nat) v, us[j]? = some v → w.cell? ⟨b, o + j, none⟩ = some v) ∧ (∀ v ∈ us, v.oneCell' = true) ∧
   ∀ (j : Nat) c, cs[j]? = some c → ∃ v, us[j]? = some v ∧ R1 w I β c v := by
   intro cs
   induction cs with
   | nil => intro o _; exact ⟨[], rfl, by simp, by simp, by simp⟩
   | cons c cs ih =>
    intro o h
    obtain ⟨⟨v, hv, hr⟩, h'⟩ := h
    obtain ⟨us, g1, g2, g3, g4⟩ := ih (o + 1) h'
    refine ⟨v :: us, by simp [g1], ?_, ?_, ?_⟩
    ·intro j u hu
     cases j with
     | zero => simp at hu; subst hu; simpa using hv
     | succ j => have := g2 j u (by simpa using hu); rwa [show o + 1 + j = o + (j + 1) by omega] at this
    ·intro u hu
     rcases List.mem_cons.1 hu with rfl | hu
     ·exact hr.2
     ·exact g3 u hu
    ·intro j d hd
     cases j with
     | zero => simp at hd; subst hd; exact ⟨v, rfl, hr⟩
     | succ j => simpa using g4 j d (by simpa using hd)
  obtain ⟨us, g1, g2, g3, g4⟩ := hcs x o h2
  refine ⟨us ++ vs, by simp [g1, h1, hl, Nat.add_mul]; omega, ?_, ?_, ?_⟩
  ·intro j u hu
   by_cases hj : j < us.length
   ·rw [List.getElem?_append_left hj] at hu; exact g2 j u hu
   ·rw [List.getElem?_append_right (by omega)] at hu
    have := hc _ u hu
    rwa [show o + sz + (j - us.length) = o + j by omega] at this
  ·intro u hu
   rcases List.mem_append.1 hu with hu | hu
   ·exact g3 u hu
   ·exact ho u hu
  ·intro i y hy
   cases i with
   | zero =>
    simp at hy; subst hy
    refine ⟨h1, fun j c hc => ?_⟩
    obtain ⟨v, hv, hr⟩ := g4 j c hc
    refine ⟨v, ?_, hr⟩
    rw [Nat.zero_mul, Nat.zero_add, List.getElem?_append_left (List.getElem?_eq_some_iff.1 hv).1]
    exact hv
   | succ i =>
    obtain ⟨k1, k2⟩ := hx i y (by simpa using hy)
    refine ⟨k1, fun j c hc => ?_⟩
    obtain ⟨v, hv, hr⟩ := k2 j c hc
    refine ⟨v, ?_, hr⟩
    rw [List.getElem?_append_right (by rw [g1, h1, Nat.add_mul]; omega)]
    rw [g1, h1, show (i + 1) * sz + j - sz = i * sz + j by rw [Nat.add_mul]; omega]
    exact hv
def aStoreW (P : Program) (st : St) (t : TypeId) (x v : AV) : ARes :=
 match ti P t, valCells v with
 | some T, some new => match x with
  | .eptr n i f => match st.ob n with
   | some (.win sz xs) => some (new.length = T.size ∧ new.all isOne = true ∧ f + new.length ≤ sz ∧ i < xs.length, .g undef, [(n, .win sz (xs.set i (setCells (xs.getD i []) f new)))])
   | some (.flat sz xs) => some (new.length = T.size ∧ new.all isOne = true ∧ f + new.length ≤ sz ∧ i < xs.length, .g undef, [(n, .win sz (xs.set i (setCells (xs.getD i []) f new)))])
   | _ => none
  | _ => none
 | _, _ => none
def aNewsW (st : St) (sz : Nat) (x : AV) : Option (Prop × List (List AV)) :=
 match aNews st sz x with
 | some r => some r
 | none => match x with
  | .arr n off len => match st.ob n with
   | some (.win s xs) => if s = sz then some (off + len ≤ xs.length, (xs.drop off).take len) else none
   | _ => none
  | _ => none
def aAppendW1 (P : Program) (st : St) (nm : Nat) (ts : List TypeId) (s x : AV) : ARes :=
 match ts with
 | [t, u] => match ti P t with
  | some T => match T.kind with
   | .slice e => match ti P e with
    | some E => match aNewsW st E.size x with
     | some (p, ys) => match s with
      | .g (.slice none 0 0) => some (p ∧ (st.ob nm).isNone = true ∧ t = u ∧ 0 < E.size ∧ E.zero.length = E.size ∧ ys.length * E.bytes ≤ 2 ^ 47 ∧ ys.length < 2 ^ 62, .arr nm 0 ys.length, [(nm, .win E.size ys)])
      | .arr n 0 len => match st.ob n with
       | some (.win sz xs) => if sz = E.size then some (p ∧ (st.ob nm).isNone = true ∧ t = u ∧ 0 < E.size ∧ E.zero.length = E.size ∧ len ≤ xs.length ∧ (len + ys.length) * E.bytes ≤ 2 ^ 47 ∧ len + ys.length < 2 ^ 62,
        .arr nm 0 (len + ys.length), [(n, .dead), (nm, .win E.size (xs.take len ++ ys))]) else none
       | _ => none
      | _ => none
     | none => none
    | none => none
   | _ => none
  | none => none
 | _ => none
def aAppendW (P : Program) (st : St) (nm : Nat) (ts : List TypeId) (s x : AV) : ARes :=
 match ts with
 | [t, u] => match ti P t with
  | some T => match T.kind with
   | .slice e => match ti P e with
    | some E => match aNewsW st E.size x with
     | some (p, ys) => match s with
      | .g (.slice none 0 0) => some (p ∧ (st.ob nm).isNone = true ∧ t = u ∧ 0 < E.size ∧ E.zero.length = E.size ∧ ys.length * E.bytes ≤ 2 ^ 47 ∧ ys.length < 2 ^ 62, .arr nm 0 ys.length, [(nm, .win E.size ys)])
      | .arr n 0 len => match st.ob n with
       | some (.win sz xs) => if sz = E.size then some (p ∧ (st.ob nm).isNone = true ∧ t = u ∧ 0 < E.size ∧ E.zero.length = E.size ∧ len ≤ xs.length ∧ (len + ys.length) * E.bytes ≤ 2 ^ 47 ∧ len + ys.length < 2 ^ 62,
        .arr nm 0 (len + ys.length), [(n, .dead), (nm, .win E.size (xs.take len ++ ys))]) else none
       | some (.flat sz xs) => if sz = E.size then some (p ∧ (st.ob nm).isNone = true ∧ t = u ∧ 0 < E.size ∧ E.zero.length = E.size ∧ len ≤ xs.length ∧ (len + ys.length) * E.bytes ≤ 2 ^ 47 ∧ len + ys.length < 2 ^ 62,
        .arr nm 0 (len + ys.length), [(n, .dead), (nm, .win E.size (xs.take len ++ ys))]) else none
       | _ => none
      | _ => none
     | none => none
    | none => none
   | _ => none
  | none => none
 | _ => none
def aBuildSliceW (P : Program) (st : St) (nm : Nat) (t : TypeId) (len : Nat) (parts : List (Nat × AV)) : ARes :=
 match ti P t with
 | some T => match T.kind with
  | .slice e => match ti P e with
   | some E => match fillA (fun i => some (i * E.size, E.size)) (List.replicate len E.zero).flatten parts with
    | some cs => some ((st.ob nm).isNone = true ∧ len * E.size ≤ 16777216 ∧ E.zero.length = E.size ∧ cs.all isOne = true, .arr nm 0 len, [(nm, .win E.size (chunks E.size len cs))])
    | none => none
   | none => none
  | _ => none
 | none => none
section
variable {C : Cx} {st : St} {a : Act} {w : World} {I : Nat → Prop} {β : Beta} {φ : Nat → List Nat}
theorem zp8 (hC : Conc C st a w I β φ) {n i f sz : Nat} {xs : List (List AV)} {new' : List AV} (hob : st.ob n = some (.win sz xs)) (x y : Value) {t : TypeId} {inf : TypeInfo} (hi : P.info? t = some inf)
 (hx : Rv w I β (.eptr n i f) x) (hsz : y.cells.size = inf.size) (hl : new'.length = y.cells.toList.length) (hfit : f + new'.length ≤ sz) (hlt : i < xs.length)
 (hr : ∀ (j : Nat) c, new'[j]? = some c → ∃ v, y.cells.toList[j]? = some v ∧ R1 w I β c v) (h1 : ∀ z ∈ y.cells.toList, z.oneCell' = true) :
 ∃ w', (Instr.storeAt t x y).run P w = .ok () w' ∧ Conc C { st with ob := upd st.ob n (some (.win sz (xs.set i (setCells (xs.getD i []) f new')))) } a w' I β φ := by
 obtain ⟨bl, hb, rfl⟩ := hx
 obtain ⟨bl', hb', rfl, h2, h3, h4⟩ := hC.ob _ _ hob
 rw [hb] at hb'; cases hb'
 rcases h4 with ⟨h4, -⟩ | ⟨hφ, ⟨arr, ty, hh, hsize⟩, hrc⟩
 ·omega
 rw [h2, Nat.zero_add]
 have hbig : i * bl.sz + bl.sz ≤ bl.cap * bl.sz := by
  have : (i + 1) * bl.sz ≤ bl.cap * bl.sz := Nat.mul_le_mul_right _ (by omega)
  rwa [Nat.add_mul, Nat.one_mul] at this
 have hrun := run_storeCells_at P bl.b (i * bl.sz + f) ty y.cells.toList 0 arr w hh (by omega) h1
 have hnew := setRow_heap w bl.b arr (arr.toList.take (i * bl.sz + f + 0) ++ y.cells.toList ++ arr.toList.drop (i * bl.sz + f + 0 + y.cells.toList.length)).toArray ty (0, 0) hh
 refine ⟨_, ?_, hC.write (w' := w.setRow bl.b (arr.toList.take (i * bl.sz + f + 0) ++ y.cells.toList ++ arr.toList.drop (i * bl.sz + f + 0 + y.cells.toList.length)).toArray) _ (by rw [hob]; simp) (by simp) (hC.wok n _ hob rfl) ?_ ?_⟩
 ·simp [Instr.storeAt, Instr.sureAddr, storeVar, sizeOf, typeInfo, hi, hsz, hrun]
 ·exact zdo _ _ _ _ (by rw [hφ]; simp)
 ·refine ⟨bl, hb, rfl, h2, by simpa using h3, .inr ⟨hφ, ⟨_, ty, hnew, by simp; omega⟩, ?_⟩⟩
  have hev : ∀ b, I b → (w.setRow bl.b (arr.toList.take (i * bl.sz + f + 0) ++ y.cells.toList ++ arr.toList.drop (i * bl.sz + f + 0 + y.cells.toList.length)).toArray).heap[b]? = w.heap[b]? := fun b hb' => setRow_other w bl.b b _ (by rintro rfl; exact hC.nimm n _ (by rw [hφ]; simp) hb')
  rw [zge] at hrc ⊢
  have hspl : ∀ k, (w.setRow bl.b (arr.toList.take (i * bl.sz + f + 0) ++ y.cells.toList ++ arr.toList.drop (i * bl.sz + f + 0 + y.cells.toList.length)).toArray).cell? ⟨bl.b, k, none⟩ =
   if i * bl.sz + f ≤ k ∧ k < i * bl.sz + f + y.cells.toList.length then y.cells.toList[k - (i * bl.sz + f)]? else arr[k]? := by
   intro k
   rw [zc1 hnew, List.getElem?_toArray, zdw _ _ _ (by simp only [Array.length_toList] at hl ⊢; omega)]
   simp only [Nat.zero_add, Nat.add_zero, Array.getElem?_toList]
  intro k z hz
  rw [List.getElem?_set] at hz
  by_cases hk : i = k
  ·subst hk
   rw [if_pos rfl, if_pos hlt] at hz
   cases hz
   have hxi : xs[i]? = some xs[i] := List.getElem?_eq_getElem hlt
   obtain ⟨hl1, hr1⟩ := hrc i _ hxi
   rw [List.getD_eq_getElem?_getD, hxi, Option.getD_some]
   refine ⟨by rw [zfn _ _ _ (by omega)]; exact hl1, ?_⟩
   rw [zdx] at hr1 ⊢
   intro j c hc
   rw [zfv _ _ _ (by omega)] at hc
   rw [hspl]
   split at hc
   ·rename_i hj
    obtain ⟨v, hv, hrv⟩ := hr _ _ hc
    refine ⟨v, ?_, zfq (fun _ h => h) hev (fun _ _ h => h) c v hrv⟩
    rw [if_pos (by omega), ← hv]
    congr 1; omega
   ·rename_i hj
    obtain ⟨v, hv, hrv⟩ := hr1 j c hc
    refine ⟨v, ?_, zfq (fun _ h => h) hev (fun _ _ h => h) c v hrv⟩
    rw [if_neg (by omega)]
    rwa [zc1 hh] at hv
  ·rw [if_neg hk] at hz
   obtain ⟨hl1, hr1⟩ := hrc k z hz
   refine ⟨hl1, ?_⟩
   rw [zdx] at hr1 ⊢
   intro j c hc
   obtain ⟨v, hv, hrv⟩ := hr1 j c hc
   refine ⟨v, ?_, zfq (fun _ h => h) hev (fun _ _ h => h) c v hrv⟩
   have hj : j < bl.sz := by rw [← hl1]; exact (List.getElem?_eq_some_iff.1 hc).1
   rw [hspl, if_neg]
   ·rwa [zc1 hh] at hv
   ·rcases Nat.lt_or_gt_of_ne hk with hlt' | hlt'
    ·have : (i + 1) * bl.sz ≤ k * bl.sz := Nat.mul_le_mul_right _ hlt'
     rw [Nat.add_mul, Nat.one_mul] at this
     omega
    ·have : (k + 1) * bl.sz ≤ i * bl.sz := Nat.mul_le_mul_right _ hlt'
     rw [Nat.add_mul, Nat.one_mul] at this
     omega
theorem Conc.fw (hC : Conc C st a w I β φ) {n sz : Nat} {xs : List (List AV)} (hob : st.ob n = some (.flat sz xs)) : Conc C { st with ob := upd st.ob n (some (.win sz xs)) } a w I β φ := by
 have hdom : ∀ m, upd st.ob n (some (OB.win sz xs)) m = none → st.ob m = none := by
  intro m ho
  by_cases hm : m = n
  ·subst hm; simp [zbj] at ho
  ·rwa [zbg _ _ hm] at ho
 refine hC.move (fun _ => False) (Evo.refl _ w) (fun _ hf => hf.elim) (fun _ hb => hb) (fun _ hb => .inl hb) (fun _ _ hb => hb) ?_ (fun m ho => hC.dom m (hdom m ho)) (fun m ho => hC.fdom m (hdom m ho)) hC.sep hC.nimm hC.flt ?_ ?_
 ·intro m o ho
  by_cases hm : m = n
  ·subst hm
   simp only [zbj, Option.some.injEq] at ho
   subst ho
   obtain ⟨bl, g1, g2, g3, g4, g5⟩ := hC.ob m _ hob
   exact .inr ⟨bl, g1, g2, g3, g4, g5.imp id fun g => ⟨g.1, g.2.1, zgb _ _ g.2.2⟩⟩
  ·rw [zbg _ _ hm] at ho
   exact .inl ⟨ho, rfl, fun _ _ hf => hf⟩
 ·intro m o ho hwr b hb
  by_cases hm : m = n
  ·subst hm
   intro hy
   have := hC.fnew m _ _ hob b hb
   have := hC.ylt b hy
   omega
  ·rw [zbg _ _ hm] at ho
   exact hC.wok m o ho hwr b hb
 ·intro m s ys ho b hb
  by_cases hm : m = n
  ·subst hm; simp [zbj] at ho
  ·rw [zbg _ _ hm] at ho
   exact hC.fnew m s ys ho b hb
theorem zxl {ob : Nat → Option OB} {n : Nat} {o o' : OB} (r : Ups) : updL (upd ob n (some o)) ((n, o') :: r) = updL ob ((n, o') :: r) := by
 rw [zci, zci]
 congr 1
 funext m
 by_cases h : m = n
 ·subst h; simp [zbj]
 ·rw [zbg _ _ h, zbg _ _ h, zbg _ _ h]
theorem zp9 (hC : Conc C st a w I β φ) {t : TypeId} {p q v : AV} {x y : Value} {c : Prop} {u : Ups} (hx : Rv w I β p x) (hy : Rv w I β q y) (h : aStoreW P st t p q = some (c, v, u)) (hc : c) :
 v = .g undef ∧ ∃ w' I' φ', (Instr.storeAt t x y).run P w = .ok () w' ∧ Conc C { st with ob := updL st.ob u } a w' I' β φ' := by
 unfold aStoreW at h
 split at h
 ·rename_i T new hT hnew
  obtain ⟨d, i, z, hd, hi, hz, rfl⟩ := zce hT
  split at h
  ·rename_i n i' f
   split at h
   ·rename_i sz xs hob
    cases h
    obtain ⟨h1, h2, h3, h4⟩ := hc
    obtain ⟨hv1, hv2⟩ := zcy hnew hy h2
    obtain ⟨hl, hg⟩ := zdm _ _ hv1
    obtain ⟨w', hr', hC''⟩ := zp8 hC hob x y hi hx (by simp at h1 hl ⊢; omega) (by simpa using hl) h3 h4 (fun j c hc => by
     obtain ⟨v, hv, hrv⟩ := hg j c hc
     exact ⟨v, hv, hrv, hv2 v (List.mem_of_getElem? hv)⟩) hv2
    exact ⟨rfl, w', I, φ, hr', hC''⟩
   ·rename_i sz xs hob
    cases h
    obtain ⟨h1, h2, h3, h4⟩ := hc
    obtain ⟨hv1, hv2⟩ := zcy hnew hy h2
    obtain ⟨hl, hg⟩ := zdm _ _ hv1
    obtain ⟨w', hr', hC''⟩ := zp8 (hC.fw hob) (zbj _ _ _) x y hi hx (by simp at h1 hl ⊢; omega) (by simpa using hl) h3 h4 (fun j c hc => by
     obtain ⟨v, hv, hrv⟩ := hg j c hc
     exact ⟨v, hv, hrv, hv2 v (List.mem_of_getElem? hv)⟩) hv2
    exact ⟨rfl, w', I, φ, hr', by rw [← zxl (o := .win sz xs)]; exact hC''⟩
   ·cases h
  ·cases h
 ·cases h
theorem newWin (hC : Conc C st a w I β φ) {nm sz cap : Nat} {xs : List (List AV)} (hn : st.ob nm = none) (arr : Array Value) (e : TypeId) (hcap : xs.length ≤ cap) (hsz : cap * sz ≤ arr.size)
 (hx : ∀ (i : Nat) x, xs[i]? = some x → x.length = sz ∧ ∀ (j : Nat) c, x[j]? = some c → ∃ v, arr[i * sz + j]? = some v ∧ R1 w I β c v) :
 ∃ β' φ', Conc C { st with ob := upd st.ob nm (some (.win sz xs)) } a (w.alloc (.cells arr e)) I β' φ' ∧ β' nm = some ⟨w.heap.size, 0, sz, cap⟩ := by
 refine ⟨_, _, hC.new hn (.cells arr e) (.win sz xs) ⟨w.heap.size, 0, sz, cap⟩ fun I' hI => ?_, zbj _ _ _⟩
 refine ⟨_, zbj _ _ _, rfl, rfl, hcap, .inr ⟨rfl, ⟨arr, e, zcx _ _, by simpa using hsz⟩, ?_⟩⟩
 rw [zge]
 intro i x hxi
 obtain ⟨h1, h2⟩ := hx i x hxi
 refine ⟨h1, ?_⟩
 rw [zdx]
 intro j c hc
 obtain ⟨v, hv, hr⟩ := h2 j c hc
 refine ⟨v, ?_, zfq hI (fun b hb => zdk _ _ (hC.immLt b hb)) (fun n bl hb => by
  rw [zbg]
  ·exact hb
  ·rintro rfl; rw [hC.dom _ hn] at hb; cases hb) c v hr⟩
 rw [zc1 (zcx _ _), Nat.zero_add]
 exact hv
theorem zgm (hC : Conc C st a w I β φ) {nm : Nat} (hn : st.ob nm = none) {e : TypeId} {sz : Nat} (z : Array Value) (hz : z.size = sz) {os ns : List Value} {xs ys : List (List AV)} (hol : os.length = xs.length * sz) (hnl : ns.length = ys.length * sz)
 (ho : ∀ (i : Nat) x, xs[i]? = some x → x.length = sz ∧ ∀ (j : Nat) c, x[j]? = some c → ∃ v, os[i * sz + j]? = some v ∧ R1 w I β c v)
 (hy : ∀ (i : Nat) x, ys[i]? = some x → x.length = sz ∧ ∀ (j : Nat) c, x[j]? = some c → ∃ v, ns[i * sz + j]? = some v ∧ R1 w I β c v)
 (cap : Nat) (hcap : xs.length + ys.length ≤ cap) (arr : Array Value) (harr : arr = os.toArray ++ ns.toArray ++ Builtin.zeroCells z (cap - (xs.length + ys.length))) :
 ∃ β' φ', Conc C { st with ob := upd st.ob nm (some (.win sz (xs ++ ys))) } a (w.drew.alloc (.cells arr e)) I β' φ' ∧ β' nm = some ⟨w.heap.size, 0, sz, cap⟩ := by
 have hasz : cap * sz ≤ arr.size := by
  rw [harr]
  simp only [Array.size_append, List.size_toArray, zf1, hol, hnl, hz]
  rw [← Nat.add_mul, ← Nat.add_mul]
  exact Nat.mul_le_mul_right _ (by omega)
 refine newWin hC.drew hn arr e (by simp; omega) hasz ?_
 intro i x hx
 have hlen : os.length = xs.length * sz := hol
 by_cases hi : i < xs.length
 ·rw [List.getElem?_append_left hi] at hx
  obtain ⟨h1, h2⟩ := ho i x hx
  refine ⟨h1, fun j c hc => ?_⟩
  obtain ⟨v, hv, hr⟩ := h2 j c hc
  refine ⟨v, ?_, zfq (w := w) (w' := w.drew) (fun _ h => h) (fun _ _ => rfl) (fun _ _ h => h) c v hr⟩
  rw [harr, Array.append_assoc, Array.getElem?_append_left (by simpa using (List.getElem?_eq_some_iff.1 hv).1)]
  simpa using hv
 ·rw [List.getElem?_append_right (by omega)] at hx
  obtain ⟨h1, h2⟩ := hy _ x hx
  refine ⟨h1, fun j c hc => ?_⟩
  obtain ⟨v, hv, hr⟩ := h2 j c hc
  refine ⟨v, ?_, zfq (w := w) (w' := w.drew) (fun _ h => h) (fun _ _ => rfl) (fun _ _ h => h) c v hr⟩
  have hidx : i * sz + j - os.length = (i - xs.length) * sz + j := by
   have : i * sz = xs.length * sz + (i - xs.length) * sz := by rw [← Nat.add_mul]; congr 1; omega
   rw [hol, this]; omega
  have hge : os.length ≤ i * sz + j := by
   have : xs.length * sz ≤ i * sz := Nat.mul_le_mul_right _ (by omega)
   rw [hol]; omega
  have hvl := (List.getElem?_eq_some_iff.1 hv).1
  rw [harr, Array.append_assoc, Array.getElem?_append_right (by simpa using hge)]
  simp only [List.size_toArray]
  rw [hidx, Array.getElem?_append_left (by simpa using hvl)]
  simpa using hv
theorem zgz (hC : Conc C st a w I β φ) {sz : Nat} {x : AV} {p : Prop} {ys : List (List AV)} (h : aNewsW st sz x = some (p, ys)) (hp : p) {y : Value} (hy : Rv w I β x y) :
 (ys = [] ∧ ∃ a' cap, y = .slice a' 0 cap) ∨ ∃ b o cap, y = .slice (some ⟨b, o, none⟩) ys.length cap ∧ RJe w I β b sz o ys := by
 unfold aNewsW at h
 split at h
 ·rename_i r hr
  cases h
  rcases zht hC hr hp hy with h | ⟨b, o, cap, h1, h2⟩
  ·exact .inl h
  ·exact .inr ⟨b, o, cap, h1, zgb _ _ h2⟩
 ·split at h
  ·rename_i n off len _
   split at h
   ·rename_i s xs hob
    split at h
    ·rename_i hs
     cases h
     obtain ⟨bl, hb, hle, hx⟩ := hy
     obtain ⟨bl', hb', h1, h2, h3, h4⟩ := hC.ob _ _ hob
     rw [hb] at hb'; cases hb'
     subst hs; subst h1
     have hlen : ((xs.drop off).take len).length = len := by simp; omega
     rcases hx with rfl | ⟨h5, a', rfl⟩
     ·rcases h4 with ⟨h4, -⟩ | ⟨-, -, h4⟩
      ·have h6 : len = 0 := by omega
       subst h6
       exact .inl ⟨by simp, _, _, rfl⟩
      ·refine .inr ⟨_, _, _, by rw [hlen], ?_⟩
       rw [h2]
       exact zfa _ _ len (zj4 _ _ off h4)
     ·have h6 : len = 0 := by omega
      subst h6
      exact .inl ⟨by simp, _, _, rfl⟩
    ·cases h
   ·cases h
  ·cases h
theorem Conc.renameW (hC : Conc C st a w I β φ) {n nm sz : Nat} {xs zs : List (List AV)} (hob : st.ob n = some (.win sz xs)) (hn : st.ob nm = none) {bl : Bl} (hbl : β n = some bl) {w' : World}
 (hev : Evo (· ∈ φ n) w w') (hro : RO w' I (upd β nm (some bl)) nm (.win sz zs) (φ n)) :
 Conc C { st with ob := upd (upd st.ob n (some .dead)) nm (some (.win sz zs)) } a w' I (upd β nm (some bl)) (upd (upd φ n []) nm (φ n)) := by
 have hne : n ≠ nm := by rintro rfl; rw [hob] at hn; cases hn
 have hβn : β nm = none := hC.dom nm hn
 have hφ : ∀ m b, b ∈ upd (upd φ n []) nm (φ n) m → (m = nm ∧ b ∈ φ n) ∨ (m ≠ nm ∧ m ≠ n ∧ b ∈ φ m) := by
  intro m b hb
  by_cases h1 : m = nm
  ·subst h1; rw [zbj] at hb; exact .inl ⟨rfl, hb⟩
  ·rw [zbg _ _ h1] at hb
   by_cases h2 : m = n
   ·subst h2; simp [zbj] at hb
   ·rw [zbg _ _ h2] at hb; exact .inr ⟨h1, h2, hb⟩
 have hdom : ∀ m, upd (upd st.ob n (some OB.dead)) nm (some (OB.win sz zs)) m = none → m ≠ nm ∧ m ≠ n ∧ st.ob m = none := by
  intro m ho
  by_cases h1 : m = nm
  ·subst h1; simp [zbj] at ho
  ·rw [zbg _ _ h1] at ho
   by_cases h2 : m = n
   ·subst h2; simp [zbj] at ho
   ·rw [zbg _ _ h2] at ho; exact ⟨h1, h2, ho⟩
 refine hC.move (· ∈ φ n) hev (fun b hb => ⟨n, hb, hC.wok n _ hob rfl b hb⟩) (fun _ hb => hb) (fun _ hb => .inl hb) ?_ ?_ ?_ ?_ ?_ ?_ ?_ ?_ ?_
 ·intro m bl' hb
  rw [zbg]
  ·exact hb
  ·rintro rfl; rw [hβn] at hb; cases hb
 ·intro m o ho
  by_cases h1 : m = nm
  ·subst h1
   simp only [zbj, Option.some.injEq] at ho ⊢
   subst ho
   exact .inr hro
  ·rw [zbg _ _ h1] at ho
   by_cases h2 : m = n
   ·subst h2
    simp only [zbj, Option.some.injEq] at ho
    subst ho
    exact .inr (by rw [zbg _ _ h1, zbj]; rfl)
   ·rw [zbg _ _ h2] at ho
    exact .inl ⟨ho, by rw [zbg _ _ h1, zbg _ _ h2], fun b hb hb' => hC.sep m n h2 b hb hb'⟩
 ·intro m ho
  obtain ⟨h1, h2, h3⟩ := hdom m ho
  rw [zbg _ _ h1]; exact hC.dom m h3
 ·intro m ho
  obtain ⟨h1, h2, h3⟩ := hdom m ho
  rw [zbg _ _ h1, zbg _ _ h2]; exact hC.fdom m h3
 ·intro m k hmk b hb hb'
  rcases hφ m b hb with ⟨rfl, h1⟩ | ⟨h1, h2, h3⟩
  ·rcases hφ k b hb' with ⟨rfl, -⟩ | ⟨-, h5, h6⟩
   ·exact hmk rfl
   ·exact hC.sep n k (Ne.symm h5) b h1 h6
  ·rcases hφ k b hb' with ⟨rfl, h4⟩ | ⟨-, -, h6⟩
   ·exact hC.sep m n h2 b h3 h4
   ·exact hC.sep m k hmk b h3 h6
 ·intro m b hb
  rcases hφ m b hb with ⟨-, h1⟩ | ⟨-, -, h3⟩
  ·exact hC.nimm n b h1
  ·exact hC.nimm m b h3
 ·intro m b hb
  have : b < w.heap.size ∧ (C.X b ∨ C.Y b ∨ C.w0.heap.size ≤ b) := by
   rcases hφ m b hb with ⟨-, h1⟩ | ⟨-, -, h3⟩
   ·exact hC.flt n b h1
   ·exact hC.flt m b h3
  exact ⟨Nat.lt_of_lt_of_le this.1 hev.size, this.2⟩
 ·intro m cs ho hwr b hb
  rcases hφ m b hb with ⟨rfl, h1⟩ | ⟨h1, h2, h3⟩
  ·exact hC.wok n _ hob rfl b h1
  ·rw [zbg _ _ h1, zbg _ _ h2] at ho
   exact hC.wok m cs ho hwr b h3
 ·intro m s ys ho b hb
  rcases hφ m b hb with ⟨rfl, h1⟩ | ⟨h1, h2, h3⟩
  ·simp [zbj] at ho
  ·rw [zbg _ _ h1, zbg _ _ h2] at ho
   exact hC.fnew m _ _ ho b h3
theorem Conc.newEmptyW (hC : Conc C st a w I β φ) {nm sz : Nat} (hn : st.ob nm = none) :
 ∃ β' φ', Conc C { st with ob := upd st.ob nm (some (.win sz [])) } a w I β' φ' ∧ β' nm = some ⟨0, 0, sz, 0⟩ := by
 refine ⟨upd β nm (some ⟨0, 0, sz, 0⟩), φ, ?_, zbj _ _ _⟩
 have hdom : ∀ m, upd st.ob nm (some (OB.win sz [])) m = none → m ≠ nm ∧ st.ob m = none := by
  intro m ho
  by_cases h1 : m = nm
  ·subst h1; simp [zbj] at ho
  ·rw [zbg _ _ h1] at ho; exact ⟨h1, ho⟩
 refine hC.move (fun _ => False) (Evo.refl _ w) (fun _ hf => hf.elim) (fun _ hb => hb) (fun _ hb => .inl hb) ?_ ?_ ?_ ?_ hC.sep hC.nimm hC.flt ?_ ?_
 ·intro m bl' hb
  rw [zbg]
  ·exact hb
  ·rintro rfl; rw [hC.dom _ hn] at hb; cases hb
 ·intro m o ho
  by_cases h1 : m = nm
  ·subst h1
   simp only [zbj, Option.some.injEq] at ho
   subst ho
   exact .inr ⟨_, zbj _ _ _, rfl, rfl, by simp, .inl ⟨rfl, hC.fdom _ hn⟩⟩
  ·rw [zbg _ _ h1] at ho
   exact .inl ⟨ho, rfl, fun _ _ hf => hf⟩
 ·intro m ho
  rw [zbg _ _ (hdom m ho).1]; exact hC.dom m (hdom m ho).2
 ·intro m ho
  exact hC.fdom m (hdom m ho).2
 ·intro m cs ho hwr b hb
  by_cases h1 : m = nm
  ·subst h1; rw [hC.fdom _ hn] at hb; simp at hb
  ·rw [zbg _ _ h1] at ho
   exact hC.wok m cs ho hwr b hb
 ·intro m s ys ho b hb
  by_cases h1 : m = nm
  ·subst h1; rw [hC.fdom _ hn] at hb; simp at hb
  ·rw [zbg _ _ h1] at ho
   exact hC.fnew m _ _ ho b hb
theorem zg8 (hC : Conc C st a w I β φ) {nm : Nat} {ts : List TypeId} {ty : TypeId} {s x v : AV} {p y : Value} {c : Prop} {u : Ups} (hs : Rv w I β s p) (hx : Rv w I β x y)
 (h : aAppendW1 P st nm ts s x = some (c, v, u)) (hc : c) : Good P C st a w (Builtin.append_ ts.toArray ty #[p, y]) v u := by
 unfold aAppendW1 at h
 split at h
 ·rename_i t t'
  split at h
  ·rename_i T hT
   obtain ⟨d, i, z, hd, hi, hz, rfl⟩ := zce hT
   simp only at h
   split at h
   ·rename_i e hk
    cases d <;> simp only [tkOf, TK.slice.injEq, reduceCtorEq] at hk
    rw [hk] at hd
    split at h
    ·rename_i E hE
     obtain ⟨d', i', z', hd', hi', hz', rfl⟩ := zce hE
     simp only at h
     split at h
     ·rename_i q ys hnews
      split at h
      · -- nil
       cases h
       obtain ⟨hq, hn, rfl, hpos, hzs, h47, h62⟩ := hc
       have hn' : st.ob nm = none := by simpa using hn
       have hzs' : z'.cells.size = i'.size := by simpa using hzs
       cases hs
       rcases zgz hC hnews hq hx with ⟨rfl, a', cap', rfl⟩ | ⟨b, o, cap', rfl, hr⟩
       ·obtain ⟨β', φ', hC', hβ⟩ := hC.newEmptyW (sz := i'.size) hn'
        exact ⟨_, w, I, β', φ', zcv w t ty e i' hd hi' none a' 0 0 cap' (Nat.le_refl _), ⟨_, hβ, by simp, .inr ⟨rfl, none, rfl⟩⟩, hC'⟩
       ·rcases Nat.eq_zero_or_pos ys.length with h0 | h0
        ·have hy0 : ys = [] := List.length_eq_zero_iff.1 h0
         subst hy0
         obtain ⟨β', φ', hC', hβ⟩ := hC.newEmptyW (sz := i'.size) hn'
         exact ⟨_, w, I, β', φ', zcv w t ty e i' hd hi' none _ 0 0 cap' (Nat.le_refl _), ⟨_, hβ, by simp, .inr ⟨rfl, none, rfl⟩⟩, hC'⟩
        ·obtain ⟨vs, hl, hcell, hone, hel⟩ := zfx _ _ hr
         have hrun := run_append_nil (P := P) w t ty e i' z' hd hi' hz' ⟨b, o, none⟩ ys.length cap' vs hl (fun j v hv => by rw [Addr.add_lit]; exact hcell j v hv) h0 (by omega) (by omega)
         obtain ⟨β', φ', hC', hβ⟩ := zgm (e := e) hC hn' z'.cells hzs' (os := []) (xs := []) (ns := vs) (ys := ys) (by simp) hl (by simp) hel (grownCap w ys.length 0 e) (by simpa using grownCap_ge w ys.length 0 e) _ rfl
         simp only [List.length_nil, Nat.zero_add, List.nil_append, Array.empty_append] at hC'
         exact ⟨_, _, I, β', φ', hrun, ⟨_, hβ, by simpa using grownCap_ge w ys.length 0 e, .inl (by simp)⟩, hC'⟩
      · -- an own row
       rename_i n len
       split at h
       ·rename_i sz xs hob
        split at h
        ·rename_i hsz
         cases h
         obtain ⟨hq, hn, rfl, hpos, hzs, hlx, h47, h62⟩ := hc
         have hn' : st.ob nm = none := by simpa using hn
         have hzs' : z'.cells.size = i'.size := by simpa using hzs
         obtain ⟨bl, hb, hle, hp⟩ := hs
         obtain ⟨bl', hb', h1, h2, h3, h4⟩ := hC.ob _ _ hob
         rw [hb] at hb'; cases hb'
         subst h1
         replace hsz : bl.sz = i'.size := hsz
         rw [Nat.zero_mul, Nat.add_zero, Nat.sub_zero, h2] at hp
         have hdead : ∀ (w' : World) (β' : Beta) (φ' : Nat → List Nat) (zs : List (List AV)), Conc C { st with ob := upd st.ob nm (some (.win bl.sz zs)) } a w' I β' φ' →
          Conc C { st with ob := upd (upd st.ob n (some .dead)) nm (some (.win bl.sz zs)) } a w' I β' (upd φ' n []) := by
          intro w' β' φ' zs hC'
          have hne : n ≠ nm := by rintro rfl; rw [hob] at hn'; cases hn'
          have hφ : ∀ m b, b ∈ upd φ' n [] m → m ≠ n ∧ b ∈ φ' m := by
           intro m b hb
           by_cases h2 : m = n
           ·subst h2; simp [zbj] at hb
           ·rw [zbg _ _ h2] at hb; exact ⟨h2, hb⟩
          have hdom : ∀ m, upd (upd st.ob n (some OB.dead)) nm (some (OB.win bl.sz zs)) m = none → m ≠ n ∧ upd st.ob nm (some (OB.win bl.sz zs)) m = none := by
           intro m ho
           by_cases h1 : m = nm
           ·subst h1; simp [zbj] at ho
           ·rw [zbg _ _ h1] at ho ⊢
            by_cases h2 : m = n
            ·subst h2; simp [zbj] at ho
            ·rw [zbg _ _ h2] at ho; exact ⟨h2, ho⟩
          refine hC'.move (fun _ => False) (Evo.refl _ w') (fun _ hf => hf.elim) (fun _ hb => hb) (fun _ hb => .inl hb) (fun _ _ hb => hb) ?_ (fun m ho => hC'.dom m (hdom m ho).2) ?_ ?_ ?_ ?_ ?_ ?_
          ·intro m o ho
           by_cases h2 : m = n
           ·subst h2
            rw [zbg _ _ hne, zbj] at ho
            cases ho
            exact .inr (by rw [zbj]; rfl)
           ·refine .inl ⟨?_, zbg _ _ h2, fun _ _ hf => hf⟩
            by_cases h1 : m = nm
            ·subst h1; simpa only [zbj] using ho
            ·rw [zbg _ _ h1, zbg _ _ h2] at ho
             show upd st.ob nm (some (OB.win bl.sz zs)) m = some o
             rw [zbg _ _ h1]; exact ho
          ·intro m ho
           rw [zbg _ _ (hdom m ho).1]; exact hC'.fdom m (hdom m ho).2
          ·intro m k hmk b hb hb'
           exact hC'.sep m k hmk b (hφ m b hb).2 (hφ k b hb').2
          ·intro m b hb; exact hC'.nimm m b (hφ m b hb).2
          ·intro m b hb; exact hC'.flt m b (hφ m b hb).2
          ·intro m cs ho hwr b hb
           obtain ⟨h2, h3⟩ := hφ m b hb
           refine hC'.wok m cs ?_ hwr b h3
           show upd st.ob nm (some (OB.win bl.sz zs)) m = some cs
           by_cases h1 : m = nm
           ·subst h1; simp only [zbj, Option.some.injEq] at ho ⊢; exact ho
           ·rw [zbg _ _ h1, zbg _ _ h2] at ho
            rw [zbg _ _ h1]; exact ho
          ·intro m s ys ho b hb
           obtain ⟨h2, h3⟩ := hφ m b hb
           refine hC'.fnew m s ys ?_ b h3
           show upd st.ob nm (some (OB.win bl.sz zs)) m = some (.flat s ys)
           by_cases h1 : m = nm
           ·subst h1; simpa only [zbj] using ho
           ·rw [zbg _ _ h1, zbg _ _ h2] at ho
            rw [zbg _ _ h1]; exact ho
         have hup : ∀ m bl', β m = some bl' → upd β nm (some bl) m = some bl' := by
          intro m bl' hm
          rw [zbg]
          ·exact hm
          ·rintro rfl; rw [hC.dom _ hn'] at hm; cases hm
         have hxl : (xs.take len).length = len := by simp; omega
         have htake : bl.cap = 0 ∨ RJe w I β bl.b bl.sz 0 (xs.take len) := h4.imp (·.1) (fun h => zfa _ _ len h.2.2)
         -- the elements that come
         have hyy : (ys = [] ∧ ∃ a' cap', y = .slice a' 0 cap') ∨ (0 < ys.length ∧ ∃ b o cap', y = .slice (some ⟨b, o, none⟩) ys.length cap' ∧ RJe w I β b i'.size o ys) := by
          rcases zgz hC hnews hq hx with h | ⟨b, o, cap', h, hr⟩
          ·exact .inl h
          ·rcases Nat.eq_zero_or_pos ys.length with h0 | h0
           ·exact .inl ⟨List.length_eq_zero_iff.1 h0, _, _, by rw [h, h0]⟩
           ·exact .inr ⟨h0, b, o, cap', h, hr⟩
         rw [← hsz]
         rcases hyy with ⟨rfl, a', cap', rfl⟩ | ⟨hy0, b, o, cap', rfl, hr⟩
         ·have hC' := hC.renameW (zs := xs.take len) hob hn' hb (Evo.refl _ w) ⟨bl, zbj _ _ _, rfl, h2, by simp; omega, h4.imp id fun h => ⟨h.1, h.2.1, zj3 (fun _ h => h) (fun _ _ => rfl) hup _ rfl _ _ _ (zfa _ _ len h.2.2)⟩⟩
          rw [List.append_nil]
          rcases hp with rfl | ⟨h0, a0, rfl⟩
          ·exact ⟨_, w, I, _, _, zcv w t ty e i' hd hi' _ a' len bl.cap cap' (by omega), ⟨bl, zbj _ _ _, by simp; omega, .inl (by simp [h2])⟩, hC'⟩
          ·have hl0 : len = 0 := by omega
           subst hl0
           exact ⟨_, w, I, _, _, zcv w t ty e i' hd hi' a0 a' 0 0 cap' (by omega), ⟨bl, zbj _ _ _, by simp, .inr ⟨h0, a0, rfl⟩⟩, hC'⟩
         ·rw [← hsz] at hr
          obtain ⟨vs, hl, hcell, hone, hel⟩ := zfx _ _ hr
          have hcell' : ∀ (j : Nat) v, vs[j]? = some v → w.cell? ((⟨b, o, none⟩ : Addr).add j) = some v := fun j v hv => by rw [Addr.add_lit]; exact hcell j v hv
          by_cases hroom : len + ys.length ≤ bl.cap
          ·rcases hp with rfl | ⟨h0, a0, rfl⟩
           ·rcases h4 with ⟨h4, -⟩ | ⟨hφ, ⟨arr, ety, hh, hsize⟩, hrc⟩
            ·omega
            ·have hbig : len * bl.sz + ys.length * bl.sz ≤ bl.cap * bl.sz := by rw [← Nat.add_mul]; exact Nat.mul_le_mul_right _ hroom
             have hrun := zdn (P := P) w t ty e ety i' hd hi' bl.b len bl.cap arr hh ⟨b, o, none⟩ ys.length cap' vs (by rw [hl, hsz]) hcell' hone hroom (by rw [← hsz, hl]; omega)
             have hlen' : (arr.toList.take (len * i'.size)).length = len * bl.sz := by simp; rw [hsz] at hbig hsize ⊢; omega
             have hnew := setRow_heap w bl.b arr (arr.toList.take (len * i'.size) ++ vs ++ arr.toList.drop (len * i'.size + vs.length)).toArray ety (0, 0) hh
             have hev : ∀ b, I b → (w.setRow bl.b (arr.toList.take (len * i'.size) ++ vs ++ arr.toList.drop (len * i'.size + vs.length)).toArray).heap[b]? = w.heap[b]? := fun b hb' => setRow_other w bl.b b _ (by rintro rfl; exact hC.nimm n _ (by rw [hφ]; simp) hb')
             have hspl : ∀ k, (w.setRow bl.b (arr.toList.take (len * i'.size) ++ vs ++ arr.toList.drop (len * i'.size + vs.length)).toArray).cell? ⟨bl.b, k, none⟩ =
              if len * bl.sz ≤ k ∧ k < len * bl.sz + vs.length then vs[k - len * bl.sz]? else arr[k]? := by
              intro k
              have hfit2 : len * i'.size + vs.length ≤ arr.toList.length := by rw [Array.length_toList (xs := arr), hl, ← hsz]; omega
              rw [zc1 hnew, List.getElem?_toArray, zdw _ _ _ hfit2, hsz]
              simp
             have hro : RO (w.setRow bl.b (arr.toList.take (len * i'.size) ++ vs ++ arr.toList.drop (len * i'.size + vs.length)).toArray) I (upd β nm (some bl)) nm (.win bl.sz (xs.take len ++ ys)) (φ n) := by
              refine ⟨bl, zbj _ _ _, rfl, h2, by simp; omega, .inr ⟨hφ, ⟨_, ety, hnew, by simp; omega⟩, ?_⟩⟩
              refine zmq _ _ _ ?_ ?_
              ·rw [zge]
               intro i x hxi
               obtain ⟨k1, k2⟩ := zhi _ _ _ _ (zfa _ _ len hrc) hxi
               refine ⟨k1, ?_⟩
               rw [zdx] at k2 ⊢
               intro j c hc
               obtain ⟨v, hv, hrv⟩ := k2 j c hc
               refine ⟨v, ?_, zfq (fun _ h => h) hev hup c v hrv⟩
               have hj : j < bl.sz := by rw [← k1]; exact (List.getElem?_eq_some_iff.1 hc).1
               have hi2 : i < len := by have := (List.getElem?_eq_some_iff.1 hxi).1; omega
               have : (i + 1) * bl.sz ≤ len * bl.sz := Nat.mul_le_mul_right _ hi2
               rw [Nat.add_mul, Nat.one_mul] at this
               rw [hspl, if_neg (by omega)]
               rwa [zc1 hh] at hv
              ·rw [zge]
               intro i y hyi
               obtain ⟨k1, k2⟩ := hel i y hyi
               refine ⟨k1, ?_⟩
               rw [zdx]
               intro j c hc
               obtain ⟨v, hv, hrv⟩ := k2 j c hc
               have hvl := (List.getElem?_eq_some_iff.1 hv).1
               refine ⟨v, ?_, zfq (fun _ h => h) hev hup c v hrv⟩
               rw [hspl, hxl, if_pos (by omega), ← hv]
               congr 1; omega
             have hC' := hC.renameW (zs := xs.take len ++ ys) hob hn' hb (zdo w bl.b _ _ (by rw [hφ]; simp)) hro
             exact ⟨_, _, I, _, _, hrun, ⟨bl, zbj _ _ _, by omega, .inl (by simp [h2])⟩, hC'⟩
           ·omega
          ·have hns : (∃ os : List Value, os.length = (xs.take len).length * bl.sz ∧ (∀ (j : Nat) v, os[j]? = some v → w.cell? ⟨bl.b, 0 + j, none⟩ = some v) ∧
            ∀ (i : Nat) x, (xs.take len)[i]? = some x → x.length = bl.sz ∧ ∀ (j : Nat) c, x[j]? = some c → ∃ v, os[i * bl.sz + j]? = some v ∧ R1 w I β c v) := by
            rcases htake with h0 | h0
            ·have : xs.take len = [] := List.length_eq_zero_iff.1 (by omega)
             rw [this]
             exact ⟨[], by simp, by simp, by simp⟩
            ·obtain ⟨os, g1, g2, g3, g4⟩ := zfx _ _ h0
             exact ⟨os, g1, g2, g4⟩
           obtain ⟨os, hol, hoc, hoel⟩ := hns
           obtain ⟨β', φ', hC', hβ⟩ := zgm (e := e) hC hn' z'.cells (hzs'.trans hsz.symm) hol hl hoel hel (grownCap w (len + ys.length) bl.cap e) (by rw [hxl]; exact grownCap_ge w _ _ e) _ rfl
           have hC'' := hdead _ _ _ _ hC'
           have hne : n ≠ nm := by rintro rfl; rw [hob] at hn'; cases hn'
           rw [hxl] at hC'' hol
           refine ⟨_, _, I, β', _, ?_, ⟨_, hβ, ?_, .inl rfl⟩, hC''⟩
           ·rcases hp with rfl | ⟨h0, a0, rfl⟩
            ·have := run_append_grow (P := P) w t ty e i' z' hd hi' hz' ⟨bl.b, 0, none⟩ len bl.cap os (by rw [hol, hsz]) (fun j v hv => by rw [Addr.add_lit]; exact hoc j v hv) ⟨b, o, none⟩ ys.length cap' vs (by rw [hl, hsz]) hcell' (by omega) (by omega)
              (growslice_fits (by omega) (by omega))
             simpa using this
            ·have hl0 : len = 0 := by omega
             subst hl0
             have ho0 : os = [] := List.length_eq_zero_iff.1 (by simpa using hol)
             subst ho0
             cases a0 with
             | none =>
              have := run_append_nil (P := P) w t ty e i' z' hd hi' hz' ⟨b, o, none⟩ ys.length cap' vs (by rw [hl, hsz]) hcell' hy0 (by omega) (by have h := h47; rw [Nat.zero_add] at h; exact Nat.le_trans h (by decide))
              simpa [← h0] using this
             | some a0 =>
              have := run_append_grow (P := P) w t ty e i' z' hd hi' hz' a0 0 0 [] (by simp) (by simp) ⟨b, o, none⟩ ys.length cap' vs (by rw [hl, hsz]) hcell' (by omega) (by omega)
               (growslice_fits (by omega) (by omega))
              simpa [← h0] using this
           ·simpa using grownCap_ge w (len + ys.length) bl.cap e
        ·cases h
       ·cases h
      ·cases h
     ·cases h
    ·cases h
   ·cases h
  ·cases h
 ·cases h
theorem zxm {sz : Nat} {x : AV} {n s : Nat} {xs : List (List AV)} (hob : st.ob n = some (.flat s xs)) : aNewsW { st with ob := upd st.ob n (some (.win s xs)) } sz x = aNewsW st sz x := by
 cases x with
 | arr m off len =>
  by_cases h : m = n
  ·subst h
   unfold aNewsW aNews
   simp only [zbj, hob]
   by_cases hs : s = sz <;> simp [hs]
  ·unfold aNewsW aNews
   simp only [zbg _ _ h]
 | g v => cases v <;> first | rfl | (rename_i p q r; cases p <;> cases q <;> cases r <;> rfl)
 | _ => rfl
theorem zny (hC : Conc C st a w I β φ) {nm : Nat} {ts : List TypeId} {ty : TypeId} {s x v : AV} {p y : Value} {c : Prop} {u : Ups} (hs : Rv w I β s p) (hx : Rv w I β x y)
 (h : aAppendW P st nm ts s x = some (c, v, u)) (hc : c) : Good P C st a w (Builtin.append_ ts.toArray ty #[p, y]) v u := by
 by_cases hf : ∃ n len sz xs, s = .arr n 0 len ∧ st.ob n = some (.flat sz xs)
 ·obtain ⟨n, len, sz, xs, rfl, hob⟩ := hf
  have hC' := hC.fw hob
  have key : ∀ c v u, aAppendW P st nm ts (.arr n 0 len) x = some (c, v, u) → c → aAppendW1 P { st with ob := upd st.ob n (some (.win sz xs)) } nm ts (.arr n 0 len) x = some (c, v, u) ∧ ∃ r, u = (n, .dead) :: r := by
   intro c v u h hc
   unfold aAppendW at h
   unfold aAppendW1
   split at h
   ·split at h
    ·split at h
     ·split at h
      ·split at h
       ·rename_i q ys hn
        simp only [hob] at h
        split at h
        ·rename_i hsz
         cases h
         have hne : nm ≠ n := by
          rintro rfl
          have := hc.2.1
          rw [hob] at this; cases this
         refine ⟨?_, _, rfl⟩
         subst hsz
         clear hc hs hC'
         simp only [*, zxm hob, zbj, zbg _ _ hne, if_true]
        ·cases h
       ·cases h
      ·cases h
     ·cases h
    ·cases h
   ·cases h
  obtain ⟨h1, r, rfl⟩ := key _ _ _ h hc
  obtain ⟨z, w', I', β', φ', g1, g2, g3⟩ := zg8 (ty := ty) hC' hs hx h1 hc
  exact ⟨z, w', I', β', φ', g1, g2, by rw [← zxl (o := .win sz xs)]; exact g3⟩
 ·refine zg8 (nm := nm) hC hs hx ?_ hc
  rw [← h]
  unfold aAppendW aAppendW1
  split
  ·split
   ·split
    ·split
     ·split
      ·split
       ·rfl
       ·rename_i n len
        cases hob : st.ob n with
        | none => rfl
        | some o =>
         cases o with
         | flat sz xs => exact (hf ⟨n, len, sz, xs, rfl, hob⟩).elim
         | _ => rfl
       ·rfl
      ·rfl
     ·rfl
    ·rfl
   ·rfl
  ·rfl
theorem zh9 (hC : Conc C st a w I β φ) {nm : Nat} {t : TypeId} {len : Nat} {ps : List (Nat × AV)} {qs : Array (Nat × Value)} {v : AV} {c : Prop} {u : Ups} (hq : RvParts w I β ps qs.toList)
 (h : aBuildSliceW P st nm t len ps = some (c, v, u)) (hc : c) : Good P C st a w (Instr.buildSlice t len qs) v u := by
 unfold aBuildSliceW at h
 split at h
 ·rename_i T hT
  obtain ⟨d, i, z, hd, hi, hz, rfl⟩ := zce hT
  simp only at h
  split at h
  ·rename_i e hk
   cases d <;> simp only [tkOf, TK.slice.injEq, reduceCtorEq] at hk
   rw [hk] at hd
   split at h
   ·rename_i E hE
    obtain ⟨d', i', z', hd', hi', hz', rfl⟩ := zce hE
    simp only at h
    split at h
    ·rename_i cs hcs
     cases h
     obtain ⟨hn, h24, hzs, hone⟩ := hc
     have hn' : st.ob nm = none := by simpa using hn
     have hzs' : z'.cells.size = i'.size := by simpa using hzs
     have hr0 : Rv1s w I β (List.replicate len (z'.cells.toList.map cv)).flatten ((Array.range (len * i'.size)).map (z'.cells[· % z'.cells.size]!)).toList := by
      refine zns _ _ (by simp [hzs']) fun j c x hc hx => ?_
      rw [znv] at hc
      split at hc
      ·rename_i hj
       simp only [List.length_map, Array.length_toList] at hc hj
       rw [Array.getElem?_toList, ← hzs', zhs _ _ _ hj] at hx
       rw [List.getElem?_map, Array.getElem?_toList, hx] at hc
       cases hc
       cases x <;> first | rfl | simp [cv, Rv1, Rv0]
      ·cases hc
     obtain ⟨A', hA, hr⟩ := zf4 (w := w) (I := I) (β := β) (fun i x hx => hx) _ _ _ _ _ hcs hq hr0
     obtain ⟨hl, hr'⟩ := zdm _ _ hr
     have hon := fun c hc => List.all_eq_true.1 hone c hc
     have hAsz : A'.size = len * i'.size := by
      have h1 := (zdm _ _ hr).1
      have h2 : cs.length = len * i'.size := by
       have : ∀ (ps : List (Nat × AV)) (cs cs' : List AV) (pl : Nat → Option (Nat × Nat)), fillA pl cs ps = some cs' → cs'.length = cs.length := by
        intro ps
        induction ps with
        | nil => intro cs cs' pl h; cases h; rfl
        | cons q ps ih =>
         intro cs cs' pl h
         unfold fillA at h
         split at h
         ·split at h
          ·rename_i hh; rw [ih _ _ _ h]; simp; omega
          ·cases h
         ·cases h
       rw [this _ _ _ _ hcs]; simp [hzs']
      simp only [Array.length_toList] at h1; omega
     obtain ⟨β', φ'', hC'', hβ⟩ := newWin (cap := len) (sz := i'.size) (xs := chunks i'.size len cs) hC hn' A' e (by rw [zgd]; omega) (by omega) (fun k x hx => by
      rw [zh8] at hx
      split at hx
      ·rename_i hk
       cases hx
       have hb : k * i'.size + i'.size ≤ len * i'.size := by
        have : (k + 1) * i'.size ≤ len * i'.size := Nat.mul_le_mul_right _ hk
        rwa [Nat.add_mul, Nat.one_mul] at this
       refine ⟨by simp at hl ⊢; omega, fun j c hc => ?_⟩
       rw [List.getElem?_take] at hc
       split at hc
       ·rw [List.getElem?_drop] at hc
        obtain ⟨v, hv, hrv⟩ := hr' _ _ hc
        exact ⟨v, by simpa using hv, hrv, zr1 c v (hon c (List.mem_of_getElem? hc)) hrv⟩
       ·cases hc
      ·cases hx)
     refine ⟨.slice (some ⟨w.heap.size, 0, none⟩) len len, w.alloc (.cells A' e), I, β', φ'', ?_, ⟨_, hβ, by simp, .inl (by simp)⟩, hC''⟩
     by_cases hpos : len * i'.size = 0
     ·have hA0 : (Array.range (len * i'.size)).map (z'.cells[· % z'.cells.size]!) = #[] := by rw [hpos]; simp
      rw [hA0] at hA
      simp [Instr.buildSlice, run_underlying hd, sizeOf, typeInfo, hi', hpos, newRow]
      rw [show Array.map (fun _ => (default : Value)) (Array.range 0) = #[] from by simp, hA]
      simp
     ·exact run_buildSlice w t e len qs A' i' z' hd hi' hz' (by omega) hpos hA
    ·cases h
   ·cases h
  ·cases h
 ·cases h
end
end Go.Proofs.Ytmheohnbkaoipaa.Vs
end
section
namespace Go.Proofs.Ytmheohnbkaoipaa.Vs
set_option linter.all false
open Go.RowKit
variable {P : Program}
def fname (nr nw n : Nat) : Prop := n < nr ∨ (8 ≤ n ∧ n < 8 + nw)
def GCall (P : Program) (f : FuncId) (args : List AV) (ros wos : List (List AV)) (r : AV) (wos' : List (List AV)) : Prop :=
 (∃ fn, P.funcs[f]? = some fn ∧ (fn.name == "runtime.NumGoroutine") = false ∧ fn.body.isNone = false) ∧
 ∀ (w : World) (I : Nat → Prop) (β : Beta) (vs : List Value), (∀ b, I b → b < w.heap.size) → Rv2s w I β args vs → ros.length ≤ 8 →
  (∀ n, ¬ fname ros.length wos.length n → β n = none) →
  (∀ i cs, ros[i]? = some cs → ∃ bl, β i = some bl ∧ ¬ I bl.b ∧ bl.b < w.heap.size ∧ Rcs w I β bl.b bl.o cs) →
  (∀ i cs, wos[i]? = some cs → ∃ bl, β (8 + i) = some bl ∧ ¬ I bl.b ∧ bl.b < w.heap.size ∧ OwnW w bl.b bl.o cs.length ∧ Rcs w I β bl.b bl.o cs) →
  (∀ n m bl bl', n ≠ m → β n = some bl → β m = some bl' → bl.b ≠ bl'.b) →
  Calls P f ⟨vs⟩ w fun e w' => ∃ v I', e = .returned v ∧ Evo (fun b => ∃ i bl, i < wos.length ∧ β (8 + i) = some bl ∧ bl.b = b) w w' ∧ (∀ b, I b → I' b) ∧ (∀ b, I' b → I b ∨ (w.heap.size ≤ b ∧ b < w'.heap.size)) ∧
   Rv w' I' (fun _ => none) r v ∧ wos'.length = wos.length ∧ ∀ i cs, wos'[i]? = some cs → ∃ bl, β (8 + i) = some bl ∧ OwnW w' bl.b bl.o cs.length ∧ Rcs w' I' (fun _ => none) bl.b bl.o cs
def PCall (P : Program) (f : FuncId) (args : List AV) (r : AV) : Prop := GCall P f args [] [] r []
def am0 (st : St) (ν : Nat → Option Nat) : AV → AV → Prop
 | .g (.slice none 0 0), .sl _ xs => xs = []
 | .arr n off len, .sl sz xs => ∃ ys, (st.ob n = some (.flat sz ys) ∨ st.ob n = some (.shared sz ys)) ∧ off + len ≤ ys.length ∧ xs = (ys.drop off).take len
 | .ptr n off, .ptr i off' => ν i = some n ∧ off' = off
 | .g v, .g v' => v' = v
 | .s l, .s l' => l' = l
 | .sl sz xs, .sl sz' xs' => sz' = sz ∧ xs' = xs
 | .ip cs, .ip cs' => cs' = cs
 | _, .undef => True
 | _, _ => False
def am0s (st : St) (ν : Nat → Option Nat) : List AV → List AV → Prop
 | [], l => l = []
 | a :: as, a' :: as' => am0 st ν a a' ∧ am0s st ν as as'
 | _ :: _, [] => False
def am1 (st : St) (ν : Nat → Option Nat) : AV → AV → Prop
 | .fn f x y, .fn f' x' y' => f' = f ∧ am0s st ν x x' ∧ am0s st ν y y'
 | a, a' => am0 st ν a a'
def am1s (st : St) (ν : Nat → Option Nat) : List AV → List AV → Prop
 | [], l => l = []
 | a :: as, a' :: as' => am1 st ν a a' ∧ am1s st ν as as'
 | _ :: _, [] => False
def am2 (st : St) (ν : Nat → Option Nat) : AV → AV → Prop
 | .tup _, _ => False
 | .agg cs, .agg cs' => am1s st ν cs cs'
 | a, a' => am1 st ν a a'
def am2s (st : St) (ν : Nat → Option Nat) : List AV → List AV → Prop
 | [], l => l = []
 | a :: as, a' :: as' => am2 st ν a a' ∧ am2s st ν as as'
 | _ :: _, [] => False
def arrN0 : List AV → List Nat
 | [] => []
 | .arr n _ _ :: r => n :: arrN0 r
 | _ :: r => arrN0 r
def arrN1 : List AV → List Nat
 | [] => []
 | .arr n _ _ :: r => n :: arrN1 r
 | .fn _ x y :: r => arrN0 x ++ arrN0 y ++ arrN1 r
 | _ :: r => arrN1 r
def arrN2 : List AV → List Nat
 | [] => []
 | .arr n _ _ :: r => n :: arrN2 r
 | .fn _ x y :: r => arrN0 x ++ arrN0 y ++ arrN2 r
 | .agg cs :: r => arrN1 cs ++ arrN2 r
 | _ :: r => arrN2 r
def scal1 : AV → Bool
 | .g _ => true
 | .s _ => true
 | _ => false
def scal2 : AV → Bool
 | .agg cs => cs.all scal1
 | a => scal1 a
def scal : AV → Bool
 | .tup vs => vs.all scal2
 | a => scal2 a
section am
variable {C : Cx} {st : St} {a : Act} {w : World} {I : Nat → Prop} {β βc : Beta} {φ : Nat → List Nat} {ν : Nat → Option Nat}
 (hC : Conc C st a w I β φ) (hν : ∀ i n, ν i = some n → ∀ bl, β n = some bl → βc i = some bl)
include hC hν
theorem zk3 (av av' : AV) (hn : ∀ n off len, av = .arr n off len → ∀ sz ys, st.ob n ≠ some (.flat sz ys)) {x : Value} (h : am0 st ν av av') (hx : Rv0 w I β av x) : Rv0 w I βc av' x := by
 unfold am0 at h
 split at h
 ·subst h; cases hx
  show RI w I _ _
  rw [RI]
  exact ⟨none, 0, rfl, by simp, .inl rfl⟩
 ·rename_i n off len sz xs
  obtain ⟨ys, hob, hle, rfl⟩ := h
  have hob' : st.ob n = some (.shared sz ys) := hob.resolve_left (hn n off len rfl sz ys)
  obtain ⟨bl, hb, hle2, hp⟩ := hx
  obtain ⟨bl', hb', h1, h2, h3, -, h4⟩ := hC.ob _ _ hob'
  rw [hb] at hb'; cases hb'
  have hlen : ((ys.drop off).take len).length = len := by simp; omega
  show RI w I _ _
  rw [RI, hlen]
  rcases hp with rfl | ⟨h5, a', rfl⟩
  ·refine ⟨_, _, rfl, by omega, ?_⟩
   rcases h4 with h4 | ⟨h4, h6⟩
   ·left; apply List.length_eq_zero_iff.1; omega
   ·refine .inr ⟨bl.b, _, rfl, h4, ?_⟩
    subst h1
    rw [h2]
    exact zd9 _ _ len (zgy _ _ off h6)
  ·have : len = 0 := by omega
   subst this
   exact ⟨_, _, rfl, Nat.le_refl _, .inl (by simp)⟩
 ·obtain ⟨h1, rfl⟩ := h
  obtain ⟨bl, hb, rfl⟩ := hx
  exact ⟨bl, hν _ _ h1 bl hb, rfl⟩
 ·subst h; exact hx
 ·subst h; exact hx
 ·obtain ⟨rfl, rfl⟩ := h; exact hx
 ·subst h; exact hx
 ·trivial
 ·exact h.elim
theorem zja : ∀ (l l' : List AV), (∀ n ∈ arrN0 l, ∀ sz ys, st.ob n ≠ some (.flat sz ys)) → ∀ {vs : List Value}, am0s st ν l l' → Rv0s w I β l vs → Rv0s w I βc l' vs
 | [], l', _, vs, h, hx => by cases h; exact hx
 | c :: cs, [], _, vs, h, hx => h.elim
 | c :: cs, c' :: cs', hn, vs, h, hx => by
  obtain ⟨v, vs', rfl, h1, h2⟩ := hx
  refine ⟨v, vs', rfl, zk3 hC hν c c' ?_ h.1 h1, zja cs cs' ?_ h.2 h2⟩
  ·rintro n off len rfl; exact hn n (by simp [arrN0])
  ·intro n hm; exact hn n (by cases c <;> simp [arrN0, hm])
theorem zk4 (av av' : AV) (hn : ∀ n ∈ arrN1 [av], ∀ sz ys, st.ob n ≠ some (.flat sz ys)) {x : Value} (h : am1 st ν av av') (hx : Rv1 w I β av x) : Rv1 w I βc av' x := by
 have key : ∀ av av', (∀ n off len, av = .arr n off len → n ∈ arrN1 [av]) → (∀ n ∈ arrN1 [av], ∀ sz ys, st.ob n ≠ some (.flat sz ys)) → am0 st ν av av' → Rv0 w I β av x → Rv0 w I βc av' x :=
  fun av av' h1 h2 h3 h4 => zk3 hC hν av av' (fun n off len e => h2 n (h1 n off len e)) h3 h4
 have harr : ∀ av n off len, av = AV.arr n off len → n ∈ arrN1 [av] := by rintro _ n off len rfl; simp [arrN1]
 cases av' with
 | undef => trivial
 | fn f' x' y' =>
  cases av with
  | fn f x y =>
   obtain ⟨rfl, h1, h2⟩ := h
   obtain ⟨vs, us, rfl, h3, h4⟩ := hx
   exact ⟨vs, us, rfl, zja hC hν _ _ (fun n hm => hn n (by simp [arrN1, hm])) h1 h3, zja hC hν _ _ (fun n hm => hn n (by simp [arrN1, hm])) h2 h4⟩
  | _ => simp [am1, am0] at h
 | g q1 => cases av with
  | fn f x y => simp [am1, am0] at h
  | _ => exact key _ (.g q1) (harr _) hn h hx
 | s q1 => cases av with
  | fn f x y => simp [am1, am0] at h
  | _ => exact key _ (.s q1) (harr _) hn h hx
 | agg q1 => cases av with
  | fn f x y => simp [am1, am0] at h
  | _ => exact key _ (.agg q1) (harr _) hn h hx
 | sl q1 q2 => cases av with
  | fn f x y => simp [am1, am0] at h
  | _ => exact key _ (.sl q1 q2) (harr _) hn h hx
 | ot q1 q2 => cases av with
  | fn f x y => simp [am1, am0] at h
  | _ => exact key _ (.ot q1 q2) (harr _) hn h hx
 | arr q1 q2 q3 => cases av with
  | fn f x y => simp [am1, am0] at h
  | _ => exact key _ (.arr q1 q2 q3) (harr _) hn h hx
 | ptr q1 q2 => cases av with
  | fn f x y => simp [am1, am0] at h
  | _ => exact key _ (.ptr q1 q2) (harr _) hn h hx
 | eptr q1 q2 q3 => cases av with
  | fn f x y => simp [am1, am0] at h
  | _ => exact key _ (.eptr q1 q2 q3) (harr _) hn h hx
 | ip q1 => cases av with
  | fn f x y => simp [am1, am0] at h
  | _ => exact key _ (.ip q1) (harr _) hn h hx
 | tup q1 => cases av with
  | fn f x y => simp [am1, am0] at h
  | _ => exact key _ (.tup q1) (harr _) hn h hx
theorem zmu : ∀ (l l' : List AV), (∀ n ∈ arrN1 l, ∀ sz ys, st.ob n ≠ some (.flat sz ys)) → ∀ {vs : List Value}, am1s st ν l l' → Rv1s w I β l vs → Rv1s w I βc l' vs
 | [], l', _, vs, h, hx => by cases h; exact hx
 | c :: cs, [], _, vs, h, hx => h.elim
 | c :: cs, c' :: cs', hn, vs, h, hx => by
  obtain ⟨v, vs', rfl, h1, h2⟩ := hx
  refine ⟨v, vs', rfl, zk4 hC hν c c' ?_ h.1 h1, zmu cs cs' ?_ h.2 h2⟩
  ·intro n hm; refine hn n ?_; cases c <;> simp [arrN1] at hm ⊢
   ·exact .inl hm
   ·rcases hm with h | h <;> simp [h]
  ·intro n hm; refine hn n ?_; cases c <;> simp [arrN1, hm]
theorem zqa (av av' : AV) (hn : ∀ n ∈ arrN2 [av], ∀ sz ys, st.ob n ≠ some (.flat sz ys)) {x : Value} (h : am2 st ν av av') (hx : Rv2 w I β av x) : Rv2 w I βc av' x := by
 by_cases htup : ∃ cs, av = .tup cs
 ·obtain ⟨cs, rfl⟩ := htup; simp [am2] at h
 have hsub : ∀ av : AV, (∀ cs, av ≠ .agg cs) → ∀ n ∈ arrN1 [av], n ∈ arrN2 [av] := by
  intro av hne n hm
  cases av <;> first | (simpa [arrN1, arrN2] using hm) | exact (hne _ rfl).elim
 by_cases hag : ∃ cs, av = .agg cs
 ·obtain ⟨cs, rfl⟩ := hag
  cases av' with
  | undef => trivial
  | agg cs' =>
   obtain ⟨vs, rfl, h1⟩ := hx
   exact ⟨vs, rfl, zmu hC hν _ _ (fun n hm => hn n (by simp [arrN2, hm])) h h1⟩
  | _ => simp [am2, am1, am0] at h
 ·have hne : ∀ cs, av ≠ .agg cs := fun cs e => hag ⟨cs, e⟩
  have hx1 : Rv1 w I β av x := by cases av <;> first | exact hx | exact (hne _ rfl).elim
  have hm1 : am1 st ν av av' := by cases av <;> first | exact (hne _ rfl).elim | exact (htup ⟨_, rfl⟩).elim | (cases av' <;> exact h)
  have := zk4 hC hν av av' (fun n hm => hn n (hsub av hne n hm)) hm1 hx1
  cases av' with
  | agg cs' => exact this.elim
  | _ => exact this
theorem zjb : ∀ (l l' : List AV), (∀ n ∈ arrN2 l, ∀ sz ys, st.ob n ≠ some (.flat sz ys)) → ∀ {vs : List Value}, am2s st ν l l' → Rv2s w I β l vs → Rv2s w I βc l' vs
 | [], l', _, vs, h, hx => by cases h; exact hx
 | c :: cs, [], _, vs, h, hx => h.elim
 | c :: cs, c' :: cs', hn, vs, h, hx => by
  obtain ⟨v, vs', rfl, h1, h2⟩ := hx
  refine ⟨v, vs', rfl, zqa hC hν c c' ?_ h.1 h1, zjb cs cs' ?_ h.2 h2⟩
  ·intro n hm; refine hn n ?_; cases c <;> simp [arrN2] at hm ⊢
   ·exact .inl hm
   ·exact .inl hm
   ·rcases hm with h | h <;> simp [h]
  ·intro n hm; refine hn n ?_; cases c <;> simp [arrN2, hm]
end am
end Go.Proofs.Ytmheohnbkaoipaa.Vs
end
section
namespace Go.Proofs.Ytmheohnbkaoipaa.Vs
set_option linter.all false
open Go.RowKit
variable {P : Program}
def nuOf (rns wns : List Nat) (i : Nat) : Option Nat := if i < 8 then rns[i]? else wns[i - 8]?
def zipW : List Nat → List (List AV) → Ups
 | n :: ns, cs :: css => (n, .cells cs) :: zipW ns css
 | _, _ => []
def objsR (st : St) (ν : Nat → Option Nat) : List Nat → List (List AV) → Prop
 | [], l => l = []
 | n :: ns, cs' :: css => (∃ cs, (st.ob n = some (.cells cs) ∨ st.ob n = some (.rocells cs)) ∧ am1s st ν cs cs') ∧ objsR st ν ns css
 | _ :: _, [] => False
def objsW (st : St) (ν : Nat → Option Nat) : List Nat → List (List AV) → Prop
 | [], l => l = []
 | n :: ns, cs' :: css => (∃ cs, st.ob n = some (.cells cs) ∧ am1s st ν cs cs') ∧ objsW st ν ns css
 | _ :: _, [] => False
def cellN (st : St) : List Nat → List Nat
 | [] => []
 | n :: r => match st.ob n with
  | some (.cells cs) => arrN1 cs ++ cellN st r
  | some (.rocells cs) => arrN1 cs ++ cellN st r
  | _ => cellN st r
def GStep (P : Program) (st : St) (f : FuncId) (actual : List AV) (v : AV) (u : Ups) : Prop :=
 ∃ (rns wns : List Nat) (args' : List AV) (ros wos wos' : List (List AV)), GCall P f args' ros wos v wos' ∧ rns.length = ros.length ∧ wns.length = wos.length ∧ wos'.length = wos.length ∧ ros.length ≤ 8 ∧ (rns ++ wns).Nodup ∧
  am2s st (nuOf rns wns) actual args' ∧ objsR st (nuOf rns wns) rns ros ∧ objsW st (nuOf rns wns) wns wos ∧
  u = (if scal v && wos'.all (fun cs => cs.all scal1) then [] else frzU st (arrN2 actual ++ cellN st (rns ++ wns))) ++ zipW wns wos'
section
variable {C : Cx} {st : St} {a : Act} {w : World} {I : Nat → Prop} {β : Beta} {φ : Nat → List Nat}
theorem am0_ob {st st2 : St} {ν : Nat → Option Nat} (h : ∀ n sz ys, (st.ob n = some (.flat sz ys) ∨ st.ob n = some (.shared sz ys)) → (st2.ob n = some (.flat sz ys) ∨ st2.ob n = some (.shared sz ys))) (a a' : AV) (hm : am0 st ν a a') : am0 st2 ν a a' := by
 unfold am0 at hm ⊢
 split at hm
 ·exact hm
 ·obtain ⟨ys, h1, h2⟩ := hm; exact ⟨ys, h _ _ _ h1, h2⟩
 ·exact hm
 ·exact hm
 ·exact hm
 ·exact hm
 ·exact hm
 ·trivial
 ·exact hm.elim
theorem zsb {st st2 : St} {ν : Nat → Option Nat} (h : ∀ n sz ys, (st.ob n = some (.flat sz ys) ∨ st.ob n = some (.shared sz ys)) → (st2.ob n = some (.flat sz ys) ∨ st2.ob n = some (.shared sz ys))) : ∀ (l l' : List AV), am0s st ν l l' → am0s st2 ν l l'
 | [], _, hm => hm
 | _ :: _, [], hm => hm
 | a :: as, a' :: as', hm => ⟨am0_ob h a a' hm.1, zsb h as as' hm.2⟩
theorem am1_ob {st st2 : St} {ν : Nat → Option Nat} (h : ∀ n sz ys, (st.ob n = some (.flat sz ys) ∨ st.ob n = some (.shared sz ys)) → (st2.ob n = some (.flat sz ys) ∨ st2.ob n = some (.shared sz ys))) (a a' : AV) (hm : am1 st ν a a') : am1 st2 ν a a' := by
 unfold am1 at hm ⊢
 split at hm
 ·exact ⟨hm.1, zsb h _ _ hm.2.1, zsb h _ _ hm.2.2⟩
 ·exact am0_ob h _ _ hm
theorem znz {st st2 : St} {ν : Nat → Option Nat} (h : ∀ n sz ys, (st.ob n = some (.flat sz ys) ∨ st.ob n = some (.shared sz ys)) → (st2.ob n = some (.flat sz ys) ∨ st2.ob n = some (.shared sz ys))) : ∀ (l l' : List AV), am1s st ν l l' → am1s st2 ν l l'
 | [], _, hm => hm
 | _ :: _, [], hm => hm
 | a :: as, a' :: as', hm => ⟨am1_ob h a a' hm.1, znz h as as' hm.2⟩
theorem am2_ob {st st2 : St} {ν : Nat → Option Nat} (h : ∀ n sz ys, (st.ob n = some (.flat sz ys) ∨ st.ob n = some (.shared sz ys)) → (st2.ob n = some (.flat sz ys) ∨ st2.ob n = some (.shared sz ys))) (a a' : AV) (hm : am2 st ν a a') : am2 st2 ν a a' := by
 unfold am2 at hm ⊢
 split at hm
 ·exact hm.elim
 ·exact znz h _ _ hm
 ·exact am1_ob h _ _ hm
theorem zsc {st st2 : St} {ν : Nat → Option Nat} (h : ∀ n sz ys, (st.ob n = some (.flat sz ys) ∨ st.ob n = some (.shared sz ys)) → (st2.ob n = some (.flat sz ys) ∨ st2.ob n = some (.shared sz ys))) : ∀ (l l' : List AV), am2s st ν l l' → am2s st2 ν l l'
 | [], _, hm => hm
 | _ :: _, [], hm => hm
 | a :: as, a' :: as', hm => ⟨am2_ob h a a' hm.1, zsc h as as' hm.2⟩
theorem zj8 {st : St} {ν : Nat → Option Nat} : ∀ (l l' : List AV), am1s st ν l l' → l'.length = l.length ∧ ∀ (j : Nat) c, l'[j]? = some c → ∃ d, l[j]? = some d ∧ am1 st ν d c
 | [], _, hm => by cases hm; simp
 | _ :: _, [], hm => hm.elim
 | a :: as, a' :: as', hm => by
  obtain ⟨h1, h2⟩ := zj8 as as' hm.2
  refine ⟨by simp [h1], fun j c hc => ?_⟩
  cases j with
  | zero => simp at hc; subst hc; exact ⟨a, rfl, hm.1⟩
  | succ j => simpa using h2 j c (by simpa using hc)
theorem zqb : ∀ (l : List AV) (j : Nat) (d : AV), l[j]? = some d → ∀ n ∈ arrN1 [d], n ∈ arrN1 l
 | [], _, _, h, _, _ => by simp at h
 | c :: cs, 0, d, h, n, hn => by
  simp at h; subst h
  cases c <;> simp [arrN1] at hn ⊢
  ·exact .inl hn
  ·rcases hn with h | h <;> simp [h]
 | c :: cs, j + 1, d, h, n, hn => by
  have := zqb cs j d (by simpa using h) n hn
  cases c <;> simp [arrN1, this]
theorem zk5 {st : St} {ν : Nat → Option Nat} : ∀ (ns : List Nat) (css : List (List AV)), objsR st ν ns css → ∀ (i : Nat) cs', css[i]? = some cs' → ∃ n cs, ns[i]? = some n ∧ (st.ob n = some (.cells cs) ∨ st.ob n = some (.rocells cs)) ∧ am1s st ν cs cs'
 | [], _, h, i, cs', hi => by cases h; simp at hi
 | _ :: _, [], h, _, _, _ => h.elim
 | n :: ns, c :: css, h, i, cs', hi => by
  cases i with
  | zero => simp at hi; subst hi; obtain ⟨cs, h1, h2⟩ := h.1; exact ⟨n, cs, rfl, h1, h2⟩
  | succ i => simpa using zk5 ns css h.2 i cs' (by simpa using hi)
theorem zhu {st : St} {ν : Nat → Option Nat} : ∀ (ns : List Nat) (css : List (List AV)), objsW st ν ns css → ∀ (i : Nat) cs', css[i]? = some cs' → ∃ n cs, ns[i]? = some n ∧ st.ob n = some (.cells cs) ∧ am1s st ν cs cs'
 | [], _, h, i, cs', hi => by cases h; simp at hi
 | _ :: _, [], h, _, _, _ => h.elim
 | n :: ns, c :: css, h, i, cs', hi => by
  cases i with
  | zero => simp at hi; subst hi; obtain ⟨cs, h1, h2⟩ := h.1; exact ⟨n, cs, rfl, h1, h2⟩
  | succ i => simpa using zhu ns css h.2 i cs' (by simpa using hi)
theorem zk6 {st : St} : ∀ (ns : List Nat) (n : Nat) (cs : List AV), n ∈ ns → (st.ob n = some (.cells cs) ∨ st.ob n = some (.rocells cs)) → ∀ m ∈ arrN1 cs, m ∈ cellN st ns
 | [], _, _, h, _, _, _ => by simp at h
 | k :: ns, n, cs, h, ho, m, hm => by
  unfold cellN
  by_cases hk : n = k
  ·subst hk
   rcases ho with ho | ho <;> rw [ho] <;> simp [hm]
  ·have := zk6 ns n cs (by simpa [hk] using h) ho m hm
   split <;> simp [this]
theorem ztt {w w' : World} {I I' : Nat → Prop} {β β' : Beta} : ∀ (c : AV) (v : Value), scal1 c = true → Rv1 w I β c v → Rv1 w' I' β' c v
 | .g _, _, _, h => h
 | .s _, _, _, h => h
 | .agg .., _, h, _ | .sl .., _, h, _ | .ot .., _, h, _ | .arr .., _, h, _ | .ptr .., _, h, _ | .eptr .., _, h, _ | .ip .., _, h, _ | .fn .., _, h, _ | .tup .., _, h, _ | .undef, _, h, _ => by simp [scal1] at h
theorem zqc {w w' : World} {I I' : Nat → Prop} {β β' : Beta} : ∀ (l : List AV) (vs : List Value), l.all scal1 = true → Rv1s w I β l vs → Rv1s w' I' β' l vs
 | [], _, _, h => h
 | c :: cs, _, h, ⟨v, vs', h1, h2, h3⟩ => by simp at h; exact ⟨v, vs', h1, ztt c v h.1 h2, zqc cs vs' (by simpa using h.2) h3⟩
theorem ztu {w w' : World} {I I' : Nat → Prop} {β β' : Beta} (c : AV) (v : Value) (h : scal2 c = true) (hr : Rv2 w I β c v) : Rv2 w' I' β' c v := by
 cases c with
 | agg cs => obtain ⟨vs, h1, h2⟩ := hr; exact ⟨vs, h1, zqc cs vs h h2⟩
 | g _ => exact hr
 | s _ => exact hr
 | _ => simp [scal2, scal1] at h
theorem zk7 {w w' : World} {I I' : Nat → Prop} {β β' : Beta} : ∀ (l : List AV) (vs : List Value), l.all scal2 = true → Rv2s w I β l vs → Rv2s w' I' β' l vs
 | [], _, _, h => h
 | c :: cs, _, h, ⟨v, vs', h1, h2, h3⟩ => by simp at h; exact ⟨v, vs', h1, ztu c v h.1 h2, zk7 cs vs' (by simpa using h.2) h3⟩
theorem zxn {w w' : World} {I I' : Nat → Prop} {β β' : Beta} (c : AV) (v : Value) (h : scal c = true) (hr : Rv w I β c v) : Rv w' I' β' c v := by
 cases c with
 | tup cs => obtain ⟨vs, h1, h2⟩ := hr; exact ⟨vs, h1, zk7 cs vs h h2⟩
 | agg cs => exact ztu (.agg cs) v h hr
 | g _ => exact hr
 | s _ => exact hr
 | _ => simp [scal, scal2, scal1] at h
theorem ztv : ∀ (ns : List Nat) (css : List (List AV)) (ob : Nat → Option OB), ns.Nodup → ns.length = css.length → (∀ (i n : Nat) cs, ns[i]? = some n → css[i]? = some cs → updL ob (zipW ns css) n = some (.cells cs)) ∧ ∀ n, n ∉ ns → updL ob (zipW ns css) n = ob n
 | [], [], ob, _, _ => by simp [zipW, updL]
 | n :: ns, cs :: css, ob, hnd, hl => by
  simp at hnd
  obtain ⟨h1, h2⟩ := ztv ns css (upd ob n (some (.cells cs))) hnd.2 (by simpa using hl)
  rw [zipW, zci]
  constructor
  ·intro i m c hm hc
   cases i with
   | zero =>
    simp at hm hc; subst hm; subst hc
    rw [h2 _ hnd.1, zbj]
   | succ i => exact h1 i m c (by simpa using hm) (by simpa using hc)
  ·intro m hm
   simp at hm
   rw [h2 m hm.2, zbg _ _ hm.1]
end
end Go.Proofs.Ytmheohnbkaoipaa.Vs
end
section
namespace Go.Proofs.Ytmheohnbkaoipaa.Vs
set_option linter.all false
open Go.RowKit
variable {P : Program}
section
variable {C : Cx} {st : St} {a : Act} {w : World} {I : Nat → Prop} {β : Beta} {φ : Nat → List Nat}
theorem ztw {βc : Beta} {ν : Nat → Option Nat} (hC : Conc C st a w I β φ) (hν : ∀ i n, ν i = some n → ∀ bl, β n = some bl → βc i = some bl) {cs cs' : List AV} (hn : ∀ n ∈ arrN1 cs, ∀ sz ys, st.ob n ≠ some (.flat sz ys))
 (h : am1s st ν cs cs') {b o : Nat} (hr : Rcs w I β b o cs) : Rcs w I βc b o cs' := by
 obtain ⟨hl, hg⟩ := zj8 _ _ h
 rw [zku] at hr ⊢
 intro j c hc
 obtain ⟨d, hd, hm⟩ := hg j c hc
 obtain ⟨v, hv, hrv⟩ := hr j d hd
 exact ⟨v, hv, zk4 hC hν d c (fun n hn' => hn n (zqb _ _ _ hd n hn')) hm hrv⟩
theorem zk8 (hC : Conc C st a w I β φ) {w' : World} {J : Nat → Prop} (hIJ : ∀ b, I b → J b) (hJ : ∀ b, J b → I b ∨ (w.heap.size ≤ b ∧ b < w'.heap.size)) {wns : List Nat} {wos' : List (List AV)} (hl : wns.length = wos'.length) (hnd : wns.Nodup)
 (hobj : ∀ (i n : Nat), wns[i]? = some n → ∃ cs bl, st.ob n = some (.cells cs) ∧ β n = some bl)
 (hev : Evo (fun b => ∃ (i n : Nat) (bl : Bl), wns[i]? = some n ∧ β n = some bl ∧ bl.b = b) w w')
 (hpost : ∀ (i n : Nat) cs, wns[i]? = some n → wos'[i]? = some cs → ∃ bl, β n = some bl ∧ OwnW w' bl.b bl.o cs.length ∧ Rcs w' J β bl.b bl.o cs) :
 Conc C { st with ob := updL st.ob (zipW wns wos') } a w' J β φ := by
 obtain ⟨hz1, hz2⟩ := ztv wns wos' st.ob hnd hl
 have hphi : ∀ (i n : Nat), wns[i]? = some n → ∃ bl, β n = some bl ∧ φ n = [bl.b] := by
  intro i n hi
  obtain ⟨cs, bl, h1, h2⟩ := hobj i n hi
  obtain ⟨bl', hb', hφ, -⟩ := hC.ob _ _ h1
  exact ⟨bl', hb', hφ⟩
 have hcase : ∀ n, n ∈ wns ∨ n ∉ wns := fun n => Classical.em _
 have hin : ∀ n, n ∈ wns → ∃ cs', updL st.ob (zipW wns wos') n = some (.cells cs') ∧ ∃ (i : Nat), wns[i]? = some n ∧ wos'[i]? = some cs' := by
  intro n hn
  obtain ⟨i, hi⟩ := List.getElem?_of_mem hn
  have hlt : i < wos'.length := by rw [← hl]; exact (List.getElem?_eq_some_iff.1 hi).1
  exact ⟨wos'[i], hz1 i n _ hi (List.getElem?_eq_getElem hlt), i, hi, List.getElem?_eq_getElem hlt⟩
 have hnone : ∀ n, updL st.ob (zipW wns wos') n = none → st.ob n = none := fun n h => zp2 h
 refine hC.move (fun b => ∃ (i n : Nat) (bl : Bl), wns[i]? = some n ∧ β n = some bl ∧ bl.b = b) hev ?_ hIJ ?_ (fun _ _ h => h) ?_ (fun n h => hC.dom n (hnone n h)) (fun n h => hC.fdom n (hnone n h)) hC.sep ?_ ?_ ?_ ?_
 ·rintro b ⟨i, n, bl, h1, h2, rfl⟩
  obtain ⟨cs, -, h3, -⟩ := hobj i n h1
  obtain ⟨bl', h4, h5⟩ := hphi i n h1
  rw [h2] at h4; cases h4
  exact ⟨n, by rw [h5]; simp, hC.wok n _ h3 rfl _ (by rw [h5]; simp)⟩
 ·intro b hb
  exact (hJ b hb).imp id .inl
 ·intro n o ho
  rcases hcase n with hn | hn
  ·obtain ⟨cs', h1, i, h2, h3⟩ := hin n hn
   rw [h1] at ho; cases ho
   obtain ⟨bl, h4, h5, h6⟩ := hpost i n cs' h2 h3
   obtain ⟨bl', h7, h8⟩ := hphi i n h2
   rw [h4] at h7; cases h7
   exact .inr ⟨bl, h4, h8, h5, h6⟩
  ·rw [hz2 n hn] at ho
   refine .inl ⟨ho, rfl, ?_⟩
   rintro b hb ⟨i, m, bl, h1, h2, rfl⟩
   obtain ⟨bl', h3, h4⟩ := hphi i m h1
   rw [h2] at h3; cases h3
   have hnm : n ≠ m := by rintro rfl; exact hn (List.mem_of_getElem? h1)
   exact hC.sep n m hnm _ hb (by rw [h4]; simp)
 ·intro n b hb hj
  rcases hJ b hj with h1 | h1
  ·exact hC.nimm n b hb h1
  ·have := (hC.flt n b hb).1; omega
 ·intro n b hb
  exact ⟨Nat.lt_of_lt_of_le (hC.flt n b hb).1 hev.size, (hC.flt n b hb).2⟩
 ·intro n cs ho hwr b hb
  rcases hcase n with hn | hn
  ·obtain ⟨i, hi⟩ := List.getElem?_of_mem hn
   obtain ⟨cs0, -, h1, -⟩ := hobj i n hi
   exact hC.wok n _ h1 rfl b hb
  ·rw [hz2 n hn] at ho; exact hC.wok n cs ho hwr b hb
 ·intro n sz xs ho b hb
  rcases hcase n with hn | hn
  ·obtain ⟨cs', h1, -⟩ := hin n hn
   rw [h1] at ho; cases ho
  ·rw [hz2 n hn] at ho; exact hC.fnew n sz xs ho b hb
theorem zk9 (hC : Conc C st a w I β φ) {f : FuncId} {actual : List AV} {vs : List Value} {v : AV} {u : Ups} (hvs : Rv2s w I β actual vs) (h : GStep P st f actual v u) :
 Calls P f ⟨vs⟩ w fun e w' => ∃ y I' β' φ', e = .returned y ∧ Rv w' I' β' v y ∧ Conc C { st with ob := updL st.ob u } a w' I' β' φ' := by
 obtain ⟨rns, wns, args', ros, wos, wos', hG, hl1, hl2, hl3, h8, hnd, hargs, hR, hW, rfl⟩ := h
 obtain ⟨I2, φ2, hI2, hC2⟩ := zfo (st := st) (arrN2 actual ++ cellN st (rns ++ wns)) st I φ (fun n => .inl rfl) hC
 have hsame : ∀ n sz ys, (st.ob n = some (.flat sz ys) ∨ st.ob n = some (.shared sz ys)) → (updL st.ob (frzU st (arrN2 actual ++ cellN st (rns ++ wns))) n = some (.flat sz ys) ∨ updL st.ob (frzU st (arrN2 actual ++ cellN st (rns ++ wns))) n = some (.shared sz ys)) := by
  intro n sz ys ho
  by_cases hin : n ∈ arrN2 actual ++ cellN st (rns ++ wns)
  ·exact .inr (zgc _ _ _ _ _ hin ho (.inl rfl))
  ·rw [zfh _ _ _ hin]; exact ho
 have hnf : ∀ n ∈ arrN2 actual ++ cellN st (rns ++ wns), ∀ sz ys, updL st.ob (frzU st (arrN2 actual ++ cellN st (rns ++ wns))) n ≠ some (.flat sz ys) := by
  intro n hn sz ys ho
  have : ∀ (ns : List Nat) (ob : Nat → Option OB), updL ob (frzU st ns) n = some (.flat sz ys) → ob n = some (.flat sz ys) := by
   intro ns
   induction ns with
   | nil => intro ob h; exact h
   | cons k ns ih =>
    intro ob h
    unfold frzU at h
    split at h
    ·rw [zci] at h
     have := ih _ h
     by_cases hk : n = k
     ·subst hk; simp [zbj] at this
     ·rwa [zbg _ _ hk] at this
    ·exact ih _ h
  have h1 := this _ _ ho
  rw [zgc _ _ _ _ _ hn (.inl h1) (.inl rfl)] at ho
  cases ho
 have hcells : ∀ n cs, st.ob n = some (.cells cs) → updL st.ob (frzU st (arrN2 actual ++ cellN st (rns ++ wns))) n = some (.cells cs) := by
  intro n cs h
  have : ∀ (ns : List Nat) (ob : Nat → Option OB), ob n = some (.cells cs) → updL ob (frzU st ns) n = some (.cells cs) := by
   intro ns
   induction ns with
   | nil => intro ob h; exact h
   | cons k ns ih =>
    intro ob h'
    unfold frzU
    split
    ·rename_i sz xs hk
     rw [zci]
     refine ih _ ?_
     by_cases hkn : n = k
     ·subst hkn; rw [h] at hk; cases hk
     ·rw [zbg _ _ hkn]; exact h'
    ·exact ih _ h'
  exact this _ _ h
 have hrocells : ∀ n cs, st.ob n = some (.rocells cs) → updL st.ob (frzU st (arrN2 actual ++ cellN st (rns ++ wns))) n = some (.rocells cs) := by
  intro n cs h
  have : ∀ (ns : List Nat) (ob : Nat → Option OB), ob n = some (.rocells cs) → updL ob (frzU st ns) n = some (.rocells cs) := by
   intro ns
   induction ns with
   | nil => intro ob h; exact h
   | cons k ns ih =>
    intro ob h'
    unfold frzU
    split
    ·rename_i sz xs hk
     rw [zci]
     refine ih _ ?_
     by_cases hkn : n = k
     ·subst hkn; rw [h] at hk; cases hk
     ·rw [zbg _ _ hkn]; exact h'
    ·exact ih _ h'
  exact this _ _ h
 -- the callee's names
 let βc : Beta := fun i => if i < ros.length ∨ (8 ≤ i ∧ i < 8 + wos.length) then (nuOf rns wns i).bind β else none
 have hnu : ∀ i n, nuOf rns wns i = some n → i < ros.length ∨ (8 ≤ i ∧ i < 8 + wos.length) := by
  intro i n h
  unfold nuOf at h
  split at h
  ·left; rw [← hl1]; exact (List.getElem?_eq_some_iff.1 h).1
  ·right; have := (List.getElem?_eq_some_iff.1 h).1; omega
 have hνc : ∀ i n, nuOf rns wns i = some n → ∀ bl, β n = some bl → βc i = some bl := by
  intro i n h bl hb
  simp only [βc, if_pos (hnu i n h), h, Option.bind_some, hb]
 have hβc : ∀ i bl, βc i = some bl → ∃ n, nuOf rns wns i = some n ∧ β n = some bl := by
  intro i bl h
  simp only [βc] at h
  split at h
  ·exact Option.bind_eq_some_iff.1 h
  ·cases h
 have hinj : ∀ i j n, nuOf rns wns i = some n → nuOf rns wns j = some n → i = j := by
  intro i j n hi hj
  have hi2 := hnu i n hi; have hj2 := hnu j n hj
  unfold nuOf at hi hj
  have key : ∀ (p q : Nat), (rns ++ wns)[p]? = some n → (rns ++ wns)[q]? = some n → p = q := by
   intro p q hp hq
   obtain ⟨hp1, hp2⟩ := List.getElem?_eq_some_iff.1 hp
   obtain ⟨hq1, hq2⟩ := List.getElem?_eq_some_iff.1 hq
   exact (List.getElem_inj hnd).1 (hp2.trans hq2.symm)
  have conv : ∀ i, (if i < 8 then rns[i]? else wns[i - 8]?) = some n → ∃ p, (rns ++ wns)[p]? = some n ∧ (i < 8 → p = i) ∧ (¬ i < 8 → p = rns.length + (i - 8)) ∧ (i < 8 → p < rns.length) := by
   intro i h
   by_cases h8 : i < 8
   ·rw [if_pos h8] at h
    have := (List.getElem?_eq_some_iff.1 h).1
    exact ⟨i, by rw [List.getElem?_append_left this]; exact h, fun _ => rfl, fun hh => absurd h8 hh, fun _ => this⟩
   ·rw [if_neg h8] at h
    exact ⟨rns.length + (i - 8), by rw [List.getElem?_append_right (by omega)]; simpa using h, fun hh => absurd hh h8, fun _ => rfl, fun hh => absurd hh h8⟩
  obtain ⟨p, p1, p2, p3, p4⟩ := conv i hi
  obtain ⟨q, q1, q2, q3, q4⟩ := conv j hj
  have := key p q p1 q1
  by_cases ci : i < 8 <;> by_cases cj : j < 8
  ·have := p2 ci; have := q2 cj; omega
  ·have := p4 ci; have := q3 cj; omega
  ·have := q4 cj; have := p3 ci; omega
  ·have := p3 ci; have := q3 cj; omega
 have hvs2 : Rv2s w I2 β actual vs := zgj hI2 (fun _ _ => rfl) (fun _ _ h => h) _ _ hvs
 have hmatch : Rv2s w I2 βc args' vs := zjb hC2 hνc _ _ (fun n hn => hnf n (by simp [hn])) (zsc hsame _ _ hargs) hvs2
 have hcells2 : ∀ (k n : Nat) cs cs', (rns ++ wns)[k]? = some n → (st.ob n = some (.cells cs) ∨ st.ob n = some (.rocells cs)) → am1s st (nuOf rns wns) cs cs' → ∃ bl, β n = some bl ∧ φ2 n = [bl.b] ∧ ¬ I2 bl.b ∧ bl.b < w.heap.size ∧ Rcs w I2 βc bl.b bl.o cs' := by
  intro k n cs cs' hk ho hm
  have hmem : n ∈ rns ++ wns := List.mem_of_getElem? hk
  have hn2 : ∀ m ∈ arrN1 cs, ∀ sz ys, updL st.ob (frzU st (arrN2 actual ++ cellN st (rns ++ wns))) m ≠ some (.flat sz ys) := fun m hm' => hnf m (by simp [zk6 _ n cs hmem ho m hm'])
  have hobj : ∃ bl, β n = some bl ∧ φ2 n = [bl.b] ∧ Rcs w I2 β bl.b bl.o cs := by
   rcases ho with ho | ho
   ·obtain ⟨bl, h1, h2, -, h3⟩ := hC2.ob n _ (hcells n cs ho); exact ⟨bl, h1, h2, h3⟩
   ·obtain ⟨bl, h1, h2, h3⟩ := hC2.ob n _ (hrocells n cs ho); exact ⟨bl, h1, h2, h3⟩
  obtain ⟨bl, h1, h2, h3⟩ := hobj
  exact ⟨bl, h1, h2, hC2.nimm n _ (by rw [h2]; simp), (hC2.flt n _ (by rw [h2]; simp)).1, ztw hC2 hνc hn2 (znz hsame _ _ hm) h3⟩
 have hcall := hG.2 w I2 βc vs hC2.immLt hmatch h8 (fun n hn => by
  simp only [βc]
  rw [if_neg (by unfold fname at hn; exact hn)]) (fun i cs' hi => by
  obtain ⟨n, cs, h1, h2, h3⟩ := zk5 _ _ hR i cs' hi
  obtain ⟨bl, g1, g2, g3, g4, g5⟩ := hcells2 i n cs cs' (by rw [List.getElem?_append_left (List.getElem?_eq_some_iff.1 h1).1]; exact h1) h2 h3
  have hi8 : i < 8 := by have := (List.getElem?_eq_some_iff.1 hi).1; omega
  exact ⟨bl, hνc i n (by unfold nuOf; rw [if_pos hi8]; exact h1) bl g1, g3, g4, g5⟩) (fun i cs' hi => by
  obtain ⟨n, cs, h1, h2, h3⟩ := zhu _ _ hW i cs' hi
  obtain ⟨bl, g1, g2, g3, g4, g5⟩ := hcells2 (rns.length + i) n cs cs' (by rw [List.getElem?_append_right (by omega)]; simpa using h1) (.inl h2) h3
  obtain ⟨bl', k1, k2, ⟨arr, ty, k3, k4⟩, -⟩ := hC2.ob n _ (hcells n cs h2)
  rw [g1] at k1; cases k1
  have hlen := (zj8 _ _ h3).1
  exact ⟨bl, hνc (8 + i) n (by unfold nuOf; rw [if_neg (by omega)]; simpa using h1) bl g1, g3, g4, ⟨arr, ty, k3, by omega⟩, g5⟩) (fun n m bl bl' hnm h1 h2 he => by
  obtain ⟨n', g1, g2⟩ := hβc n bl h1
  obtain ⟨m', g3, g4⟩ := hβc m bl' h2
  have hne : n' ≠ m' := by rintro rfl; exact hnm (hinj n m n' g1 g3)
  have hphi : ∀ (k p : Nat) (bl : Bl), nuOf rns wns k = some p → β p = some bl → bl.b ∈ φ2 p := by
   intro k p bl hk hb
   have hp : p ∈ rns ++ wns := by
    unfold nuOf at hk
    split at hk
    ·exact List.mem_append.2 (.inl (List.mem_of_getElem? hk))
    ·exact List.mem_append.2 (.inr (List.mem_of_getElem? hk))
   have : ∃ cs, st.ob p = some (.cells cs) ∨ st.ob p = some (.rocells cs) := by
    rcases List.mem_append.1 hp with hp | hp
    ·obtain ⟨i, hi⟩ := List.getElem?_of_mem hp
     have hlt : i < ros.length := by rw [← hl1]; exact (List.getElem?_eq_some_iff.1 hi).1
     obtain ⟨q, cs, e1, e2, -⟩ := zk5 _ _ hR i _ (List.getElem?_eq_getElem hlt)
     rw [hi] at e1; cases e1
     exact ⟨cs, e2⟩
    ·obtain ⟨i, hi⟩ := List.getElem?_of_mem hp
     have hlt : i < wos.length := by rw [← hl2]; exact (List.getElem?_eq_some_iff.1 hi).1
     obtain ⟨q, cs, e1, e2, -⟩ := zhu _ _ hW i _ (List.getElem?_eq_getElem hlt)
     rw [hi] at e1; cases e1
     exact ⟨cs, .inl e2⟩
   obtain ⟨cs, ho⟩ := this
   rcases ho with ho | ho
   ·obtain ⟨bl', e1, e2, -⟩ := hC2.ob p _ (hcells p cs ho)
    rw [hb] at e1; cases e1; rw [e2]; simp
   ·obtain ⟨bl', e1, e2, -⟩ := hC2.ob p _ (hrocells p cs ho)
    rw [hb] at e1; cases e1; rw [e2]; simp
  exact hC2.sep n' m' hne bl.b (hphi n n' bl g1 g2) (by rw [he]; exact hphi m m' bl' g3 g4))
 refine hcall.mono ?_
 rintro e w' ⟨y, I', rfl, hev, hIs, hIn, hy, -, hpost⟩
 have hwobj : ∀ (i n : Nat), wns[i]? = some n → ∃ cs bl, st.ob n = some (.cells cs) ∧ β n = some bl := by
  intro i n hi
  have hlt : i < wos.length := by rw [← hl2]; exact (List.getElem?_eq_some_iff.1 hi).1
  obtain ⟨q, cs, e1, e2, -⟩ := zhu _ _ hW i _ (List.getElem?_eq_getElem hlt)
  rw [hi] at e1; cases e1
  obtain ⟨bl, e3, -⟩ := hC.ob n _ e2
  exact ⟨cs, bl, e2, e3⟩
 have hev' : Evo (fun b => ∃ (i n : Nat) (bl : Bl), wns[i]? = some n ∧ β n = some bl ∧ bl.b = b) w w' := by
  refine hev.mono ?_
  rintro b - ⟨i, bl, h1, h2, rfl⟩
  obtain ⟨n, g1, g2⟩ := hβc _ _ h2
  unfold nuOf at g1
  rw [if_neg (by omega)] at g1
  exact ⟨i, n, bl, by simpa using g1, g2, rfl⟩
 have hwnd : wns.Nodup := (List.nodup_append.1 hnd).2.1
 have hpost' : ∀ (i n : Nat) cs, wns[i]? = some n → wos'[i]? = some cs → ∃ bl, β n = some bl ∧ OwnW w' bl.b bl.o cs.length ∧ Rcs w' I' (fun _ => none) bl.b bl.o cs := by
  intro i n cs h1 h2
  obtain ⟨bl, g1, g2, g3⟩ := hpost i cs h2
  obtain ⟨m, g4, g5⟩ := hβc _ _ g1
  unfold nuOf at g4
  rw [if_neg (by omega)] at g4
  have : m = n := by rw [show 8 + i - 8 = i by omega, h1] at g4; cases g4; rfl
  subst this
  exact ⟨bl, g5, g2, g3⟩
 rw [zdd]
 by_cases hsc : (scal v && wos'.all (fun cs => cs.all scal1)) = true
 ·rw [if_pos hsc, zj6]
  simp only [Bool.and_eq_true] at hsc
  refine ⟨y, I, β, φ, rfl, zxn _ _ hsc.1 hy, zk8 hC (fun _ h => h) (fun _ h => .inl h) (by omega) hwnd hwobj hev' ?_⟩
  ·intro i n cs h1 h2
   obtain ⟨bl, g1, g2, g3⟩ := hpost' i n cs h1 h2
   refine ⟨bl, g1, g2, ?_⟩
   have hsc2 := List.all_eq_true.1 hsc.2 cs (List.mem_of_getElem? h2)
   rw [zku] at g3 ⊢
   intro j c hc
   obtain ⟨z, hz, hrz⟩ := g3 j c hc
   exact ⟨z, hz, ztt _ _ (List.all_eq_true.1 hsc2 c (List.mem_of_getElem? hc)) hrz⟩
 ·rw [if_neg hsc]
  refine ⟨y, I', β, φ2, rfl, zh4 (fun _ h => h) (fun _ _ => rfl) (fun n bl h => by cases h) _ _ hy, zk8 hC2 hIs hIn (by omega) hwnd ?_ hev' ?_⟩
  ·intro i n hi
   obtain ⟨cs, bl, h1, h2⟩ := hwobj i n hi
   exact ⟨cs, bl, hcells n cs h1, h2⟩
  ·intro i n cs h1 h2
   obtain ⟨bl, g1, g2, g3⟩ := hpost' i n cs h1 h2
   exact ⟨bl, g1, g2, zj2 (fun _ h => h) (fun _ _ => rfl) (fun n bl h => by cases h) _ rfl _ _ g3⟩
end
end Go.Proofs.Ytmheohnbkaoipaa.Vs
end
section
namespace Go.Proofs.Ytmheohnbkaoipaa.Vs
set_option linter.all false
open Go.RowKit
variable {P : Program}
def nmOf (o : Oper) : Nat := match o.dst with
 | some d => 16 * (d + 1)
 | none => 15
def St.put (st : St) (o : Oper) (v : AV) (u : Ups) : St := { env := match o.dst with | some d => upd st.env d v | none => st.env, ob := updL st.ob u }
def AStep (P : Program) (st : St) (o : Oper) (v : AV) (u : Ups) : Prop :=
 match o.op with
 | .call c => match c.callee with
  | .builtin b => ∃ p, aBuiltin P st (nmOf o) b c.argTypes.toList (c.args.toList.map (ev st)) = some (p, v, u) ∧ p
  | .value f => match ev st f with
   | .fn fid fst cap => GStep P st fid (fst ++ c.args.toList.map (ev st) ++ cap) v u
   | _ => False
  | .invoke _ _ => False
 | op => ∃ p, aop P st (nmOf o) op = some (p, v, u) ∧ p
def CK (P : Program) (st : St) (f : FuncId) (actual : List AV) (K : AV → Ups → Prop) : Prop := ∃ v u, GStep P st f actual v u ∧ K v u
def aK (P : Program) (st : St) (o : Oper) (K : AV → Ups → Prop) : Prop :=
 match o.op with
 | .call c => match c.callee with
  | .builtin b => match aBuiltin P st (nmOf o) b c.argTypes.toList (c.args.toList.map (ev st)) with
   | some (p, v, u) => p ∧ K v u
   | none => False
  | .value f => match ev st f with
   | .fn fid fst cap => CK P st fid (fst ++ c.args.toList.map (ev st) ++ cap) K
   | _ => False
  | .invoke _ _ => False
 | op => match aop P st (nmOf o) op with
  | some (p, v, u) => p ∧ K v u
  | none => False
theorem zn0 {st : St} {o : Oper} {K : AV → Ups → Prop} (h : aK P st o K) : ∃ v u, AStep P st o v u ∧ K v u := by
 have fin : ∀ r : ARes, (match r with | some (p, v, u) => p ∧ K v u | none => False) → ∃ v u, (∃ p, r = some (p, v, u) ∧ p) ∧ K v u := by
  intro r h
  match r, h with
  | some (p, v, u), h => exact ⟨v, u, ⟨p, rfl, h.1⟩, h.2⟩
 obtain ⟨dst, op, ty, pos, aft, gd⟩ := o
 unfold aK at h
 unfold AStep
 cases op with
 | call c =>
  simp only at h ⊢
  cases hc : c.callee with
  | builtin b => rw [hc] at h; exact fin _ h
  | invoke _ _ => rw [hc] at h; exact h.elim
  | value f =>
   rw [hc] at h
   simp only at h ⊢
   split at h
   ·rename_i fid fst cap hf
    obtain ⟨v, u, h1, h2⟩ := h
    exact ⟨v, u, h1, h2⟩
   ·exact h.elim
 | _ => exact fin _ h
section
variable {C : Cx} {st : St} {a : Act} {w : World} {I : Nat → Prop} {β : Beta} {φ : Nat → List Nat}
def CC (C : Cx) (st : St) (a : Act) (w : World) : Prop := ∃ I β φ, Conc C st a w I β φ
theorem zf5 (hE : ∀ x, Rv w I β (ev st x) (a.eval x)) : ∀ (l : List Operand), (∀ x ∈ l, ∀ vs, ev st x ≠ .tup vs) → Rv2s w I β (l.map (ev st)) (l.map a.eval)
 | [], _ => rfl
 | x :: l, h => by
  refine ⟨_, _, rfl, ?_, zf5 hE l fun y hy => h y (by simp [hy])⟩
  have h2 := hE x
  have h3 := h x (by simp)
  generalize ev st x = v at *
  cases v <;> first | exact h2 | exact (h3 _ rfl).elim
theorem zc4 : ∀ (l l' : List AV) (vs vs' : List Value), Rv2s w I β l vs → Rv2s w I β l' vs' → Rv2s w I β (l ++ l') (vs ++ vs')
 | [], _, _, _, h, h' => by cases h; exact h'
 | c :: l, l', _, vs', ⟨v, vs, rfl, h1, h2⟩, h' => ⟨v, vs ++ vs', rfl, h1, zc4 l l' vs vs' h2 h'⟩
theorem Rv0_Rv2 : ∀ (c : AV) (v : Value), Rv0 w I β c v → Rv2 w I β c v
 | .g _, _, h => h | .s _, _, h => h | .sl _ _, _, h => h | .arr .., _, h => h | .ptr .., _, h => h | .eptr .., _, h => h | .ip .., _, h => h
 | .undef, _, _ => trivial
 | .agg .., _, h | .ot .., _, h | .tup .., _, h | .fn .., _, h => h.elim
theorem zdf : ∀ (l : List AV) (vs : List Value), Rv0s w I β l vs → Rv2s w I β l vs
 | [], _, h => h
 | c :: l, _, ⟨v, vs, rfl, h1, h2⟩ => ⟨v, vs, rfl, Rv0_Rv2 c v h1, zdf l vs h2⟩
theorem zg0 {ν : Nat → Option Nat} : ∀ (l l' : List AV), am2s st ν l l' → ∀ x ∈ l, ∀ vs, x ≠ .tup vs
 | [], _, _, x, hx, _ => by simp at hx
 | _ :: _, [], h, _, _, _ => h.elim
 | c :: l, c' :: l', h, x, hx, vs => by
  rcases List.mem_cons.1 hx with rfl | hx
  ·rintro rfl
   have := h.1
   simp [am2] at this
  ·exact zg0 l l' h.2 x hx vs
theorem zla {o : Oper} {v : AV} {u : Ups} {K : Act → World → Prop} {Q : Exit → Act → World → Prop} (hd : ∀ d, o.dst = some d → d < C.nt) (hC : Conc C st a w I β φ) (h : AStep P st o v u) (hK : ∀ a' w', CC C (st.put o v u) a' w' → K a' w') : o.wp P a w K Q := by
 have hE : ∀ x, Rv w I β (ev st x) (a.eval x) := zfl hC.env
 have good : ∀ v u, GoodOp P C st a w o v u → (∀ a' w', CC C (st.put o v u) a' w' → K a' w') → o.wp P a w K Q := by
  rintro v u ⟨y, w', I', β', φ', hr, hv, hC'⟩ hK
  have hcc : CC C (st.put o v u) (a.put o.dst y) w' := by
   refine ⟨I', β', φ', ?_⟩
   unfold St.put
   cases hdst : o.dst with
   | none => exact hC'
   | some d => exact hC'.put (hd d hdst) hv
  rcases hr with hr | ⟨hr, rfl⟩
  ·unfold Oper.wp; rw [hr]; exact hK _ _ hcc
  ·unfold Oper.wp; rw [hr]; exact hK _ _ hcc
 obtain ⟨dst, op, ty, pos, aft, gd⟩ := o
 unfold AStep at h
 cases op with
 | call c =>
  obtain ⟨callee, args, argTypes⟩ := c
  simp only at h
  cases callee with
  | invoke _ _ => exact h.elim
  | builtin b =>
   obtain ⟨p, h1, h2⟩ := h
   exact good v u (zfc hC rfl rfl rfl h1 h2) hK
  | value f =>
   simp only at h
   split at h
   ·rename_i fid fst cap hfe
    obtain ⟨rns, wns, args', ros, wos, wos', ⟨⟨fn, hfn, hname, hbody⟩, -⟩, -, -, -, -, -, ham, -⟩ := id h
    have hnt : ∀ x ∈ args.toList, ∀ vs, ev st x ≠ .tup vs := fun x hx vs => zg0 _ _ ham (ev st x) (by simp; exact .inr (.inl ⟨x, by simpa using hx, rfl⟩)) vs
    have hfv := hE f
    rw [hfe] at hfv
    obtain ⟨fs, us, hfv, h1, h2⟩ := hfv
    have hvs := zc4 _ _ _ _ (zc4 _ _ _ _ (zdf _ _ h1) (zf5 hE args.toList hnt)) (zdf _ _ h2)
    have hcall := zk9 hC hvs h
    unfold Oper.wp
    have hrun : (execOp a.eval ⟨dst, .call { callee := .value f, args, argTypes }, ty, pos, aft, gd⟩).run P w = .ok (.enter fid ⟨fs ++ args.toList.map a.eval ++ us⟩) w := by
     simp only [execOp, resolve, hfv, Deferred.ofValue, Sem.run_bind, Sem.run_pure, Result.andThen_ok, invoke, callFunc, run_program, hfn, hname, hbody]
     simp
    rw [hrun]
    refine hcall.mono ?_
    rintro e w' ⟨y, I', β', φ', rfl, hy, hC'⟩
    refine hK _ _ ⟨I', β', φ', ?_⟩
    unfold St.put
    cases dst with
    | none => exact hC'
    | some d => exact hC'.put (hd d rfl) hy
   ·exact h.elim
 | _ =>
  obtain ⟨p, h1, h2⟩ := h
  exact good v u (zds (nm := nmOf _) hC h1 h2) hK
def areg (P : Program) (ops : Array Oper) : List Oper → St → (St → Prop) → Prop
 | [], st, K => K st
 | o :: rest, st, K => match o.guard with
  | none => aK P st o fun v u => areg P ops rest (st.put o v u) K
  | some (j, want) => match (ops[j]?).bind (·.dst) with
   | some d => match st.env d with
    | .g (.bool b) => (b = want → aK P { st with env := upd st.env d (.g (.bool want)) } o fun v u => areg P ops rest (({ st with env := upd st.env d (.g (.bool want)) } : St).put o v u) K) ∧
     (b = (!want) → areg P ops rest (({ st with env := upd st.env d (.g (.bool (!want))) } : St).put o (.g undef) []) K)
    | .g (.tuple vs) => vs.size = 0 ∧ areg P ops rest (st.put o (.g undef) []) K
    | _ => False
   | none => False
theorem CC.put_undef {o : Oper} (hd : ∀ d, o.dst = some d → d < C.nt) (hC : Conc C st a w I β φ) : CC C (st.put o (.g undef) []) (a.put o.dst undef) w := by
 refine ⟨I, β, φ, ?_⟩
 unfold St.put
 cases hdst : o.dst with
 | none => exact hC
 | some d => exact hC.put (hd d hdst) rfl
theorem zjc (ops : Array Oper) (tm : Array Value) (j d : Nat) (h : (ops[j]?).bind (·.dst) = some d) : yielded ops tm j = match tm.getD d undef with | .bool b => some b | _ => none := by
 unfold yielded
 rw [h]
 simp only [Option.bind_some, Array.getD_eq_getD_getElem?]
 cases tm[d]? with
 | none => rfl
 | some v => cases v <;> rfl
theorem Conc.same_env {d : Nat} {v : AV} (hC : Conc C st a w I β φ) (h : st.env d = v) : Conc C { st with env := upd st.env d v } a w I β φ := by
 have : upd st.env d v = st.env := by
  funext m
  by_cases hm : m = d
  ·subst hm; rw [zbj, h]
  ·rw [zbg _ _ hm]
 rw [this]; exact hC
theorem zf6 {ops : Array Oper} {Q : Exit → Act → World → Prop} {K : St → Prop} : ∀ (l : List Oper) (st : St) (a : Act) (w : World), (∀ o ∈ l, ∀ d, o.dst = some d → d < C.nt) → areg P ops l st K → CC C st a w →
 (∀ st' a' w', K st' → CC C st' a' w' → Q .normal a' w') → wpList P ops Q l a w
 | [], st, a, w, _, h, hC, hQ => hQ st a w h hC
 | o :: rest, st, a, w, hd, h, hC, hQ => by
  have hd' : ∀ o ∈ rest, ∀ d, o.dst = some d → d < C.nt := fun o ho => hd o (by simp [ho])
  unfold areg at h
  unfold wpList
  obtain ⟨I, β, φ, hC⟩ := hC
  split at h
  ·rename_i hg
   rw [if_pos (by simp [Region.wanted, hg])]
   obtain ⟨v, u, h1, h2⟩ := zn0 h
   exact .inl (zla (hd o (by simp)) hC h1 fun a' w' hc => zf6 rest _ a' w' hd' h2 hc hQ)
  ·rename_i j want hg
   split at h
   ·rename_i d hj
    have hy := zjc ops a.tmps j d hj
    split at h
    ·rename_i b hb
     have he := hC.env d
     rw [hb] at he
     change a.tmps.getD d undef = .bool b at he
     rw [he] at hy
     by_cases hbw : b = want
     ·subst hbw
      rw [if_pos (by simp [Region.wanted, hg, hy])]
      obtain ⟨v, u, h1, h2⟩ := zn0 (h.1 rfl)
      exact .inl (zla (hd o (by simp)) (hC.same_env hb) h1 fun a' w' hc => zf6 rest _ a' w' hd' h2 hc hQ)
     ·have hbn : b = !want := by cases b <;> cases want <;> simp_all
      rw [if_neg (by simp [Region.wanted, hg, hy, hbw])]
      subst hbn
      exact zf6 rest _ _ w hd' (h.2 rfl) (CC.put_undef (hd o (by simp)) (hC.same_env hb)) hQ
    ·rename_i vs hb
     have he := hC.env d
     rw [hb] at he
     change a.tmps.getD d undef = .tuple vs at he
     rw [he] at hy
     rw [if_neg (by simp [Region.wanted, hg, hy])]
     exact zf6 rest _ _ w hd' h.2 (CC.put_undef (hd o (by simp)) hC) hQ
    ·exact h.elim
   ·exact h.elim
end
end Go.Proofs.Ytmheohnbkaoipaa.Vs
end
section
namespace Go.Proofs.Ytmheohnbkaoipaa.Vs
set_option linter.all false
open Go.RowKit
variable {P : Program}
def names0 : AV → List Nat
 | .arr n _ _ => [n]
 | .ptr n _ => [n]
 | .eptr n _ _ => [n]
 | _ => []
def names1 : AV → List Nat
 | .fn _ x y => x.flatMap names0 ++ y.flatMap names0
 | a => names0 a
def names2 : AV → List Nat
 | .agg cs => cs.flatMap names1
 | a => names1 a
def rdN (st : St) (o : Oper) : List Nat :=
 let ns := o.op.operands.toList.flatMap fun x => names2 (ev st x)
 nmOf o :: (ns ++ ns.flatMap fun n => match st.ob n with
  | some (.cells cs) => cs.flatMap names1
  | some (.rocells cs) => cs.flatMap names1
  | _ => [])
abbrev Lg := List Nat × List Nat
def lgApart (x y : Lg) : Bool := x.2.all (fun n => !y.1.contains n && !y.2.contains n) && y.2.all (fun n => !x.1.contains n)
def lgOk (ops : Array Oper) (ls : List Lg) : Bool :=
 let b := Region.before ops
 (List.range ls.length).all fun j => (List.range j).all fun i => (b.getD j 0).testBit i || lgApart (ls.getD i ([], [])) (ls.getD j ([], []))
def aregD (P : Program) (ops : Array Oper) : List Oper → St → List Lg → (St → List Lg → Prop) → Prop
 | [], st, ls, K => K st ls
 | o :: rest, st, ls, K => match o.guard with
  | none => aK P st o fun v u => aregD P ops rest (st.put o v u) (ls ++ [(rdN st o, u.map (·.1))]) K
  | some (j, want) => match (ops[j]?).bind (·.dst) with
   | some d => match st.env d with
    | .g (.bool b) => (b = want → aK P { st with env := upd st.env d (.g (.bool want)) } o fun v u => aregD P ops rest (({ st with env := upd st.env d (.g (.bool want)) } : St).put o v u) (ls ++ [(rdN st o, u.map (·.1))]) K) ∧
     (b = (!want) → aregD P ops rest (({ st with env := upd st.env d (.g (.bool (!want))) } : St).put o (.g undef) []) (ls ++ [([], [])]) K)
    | .g (.tuple vs) => vs.size = 0 ∧ aregD P ops rest (st.put o (.g undef) []) (ls ++ [([], [])]) K
    | _ => False
   | none => False
inductive AExit where
 | normal
 | exit (id : Nat)
 | ret
def lk {α : Type} : List (Nat × α) → Nat → Option α
 | [], _ => none
 | (k, v) :: r, n => bif n == k then some v else lk r n
def mkSt (e : List (Nat × AV)) (os : List (Nat × OB)) : St := { env := fun n => (lk e n).getD .undef, ob := lk os }
abbrev Ren := List (Nat × Nat)
def renV (ρ : Ren) : AV → AV
 | .arr n off len => match lk ρ n with
  | some m => .arr m off len
  | none => .ot 0 []
 | .ptr n off => match lk ρ n with
  | some m => .ptr m off
  | none => .ot 0 []
 | .eptr n i f => match lk ρ n with
  | some m => .eptr m i f
  | none => .ot 0 []
 | a => a
def le0 (st : St) (ρ : Ren) : AV → AV → Prop
 | _, .undef => True
 | .g (.slice none 0 0), .sl _ xs => xs = []
 | .arr n off len, .sl sz xs => ∃ ys, st.ob n = some (.shared sz ys) ∧ off + len ≤ ys.length ∧ xs = (ys.drop off).take len
 | a, a' => a = renV ρ a'
def le0s (st : St) (ρ : Ren) : List AV → List AV → Prop
 | [], l => l = []
 | a :: as, a' :: as' => le0 st ρ a a' ∧ le0s st ρ as as'
 | _ :: _, [] => False
def le1 (st : St) (ρ : Ren) : AV → AV → Prop
 | .fn f x y, .fn f' x' y' => f' = f ∧ le0s st ρ x x' ∧ le0s st ρ y y'
 | a, a' => le0 st ρ a a'
def le1s (st : St) (ρ : Ren) : List AV → List AV → Prop
 | [], l => l = []
 | a :: as, a' :: as' => le1 st ρ a a' ∧ le1s st ρ as as'
 | _ :: _, [] => False
def le2 (st : St) (ρ : Ren) : AV → AV → Prop
 | .agg cs, .agg cs' => le1s st ρ cs cs'
 | .tup _, a' => a' = .undef
 | a, a' => le1 st ρ a a'
def wn (st : St) (ρ : Ren) (xs xs' : List (List AV)) : Prop := xs'.length = xs.length ∧ ∀ (i : Nat) x', xs'[i]? = some x' → ∃ x, xs[i]? = some x ∧ le1s st ρ x x'
def leO (st : St) (ρ : Ren) : OB → OB → Prop
 | .cells cs, .cells cs' => le1s st ρ cs cs'
 | .rocells cs, .rocells cs' => le1s st ρ cs cs'
 | .flat sz xs, .flat sz' xs' => sz' = sz ∧ xs' = xs
 | .shared sz xs, .shared sz' xs' => sz' = sz ∧ xs' = xs
 | .flat sz xs, .win sz' xs' => sz' = sz ∧ xs' = xs
 | .flat sz xs, .own sz' xs' => sz' = sz ∧ xs' = xs ∧ scR xs = true
 | .win sz xs, .win sz' xs' => sz' = sz ∧ ((xs' = xs ∧ scR xs = true) ∨ wn st ρ xs xs')
 | .win sz xs, .own sz' xs' => sz' = sz ∧ xs' = xs ∧ scR xs = true
 | .own sz xs, .win sz' xs' => sz' = sz ∧ xs' = xs ∧ scR xs = true
 | .own sz xs, .own sz' xs' => sz' = sz ∧ xs' = xs
 | .park ps, .park ps' => ps' = ps
 | .ownh sz xs _, .own sz' xs' => sz' = sz ∧ xs' = xs
 | .dead, .dead => True
 | _, _ => False
def leEnv (st : St) (ρ : Ren) : List (Nat × AV) → Prop
 | [] => True
 | (t, v) :: r => le2 st ρ (st.env t) v ∧ leEnv st ρ r
def leObs (st : St) (ρ : Ren) : List (Nat × OB) → Prop
 | [] => True
 | (n, o) :: r => (match lk ρ n with
  | some m => match st.ob m with
   | some p => leO st ρ p o
   | none => False
  | none => False) ∧ leObs st ρ r
def LeSt (fs : List Nat) (st : St) (ρ : Ren) (e : List (Nat × AV)) (os : List (Nat × OB)) : Prop :=
 leEnv st ρ e ∧ leObs st ρ os ∧ (ρ.map (·.1)).Nodup ∧ (ρ.map (·.2)).Nodup ∧ ρ.map (·.1) = os.map (·.1) ∧ (os.map (·.1)).Nodup ∧ ∀ n ∈ fs, lk ρ n = some n
section
variable {C : Cx} {st : St} {a : Act} {w : World} {I : Nat → Prop} {β βc : Beta} {φ : Nat → List Nat} {ρ : Ren}
theorem ztx {α : Type} : ∀ {l : List (Nat × α)} {n : Nat} {v : α}, lk l n = some v → (n, v) ∈ l
 | (k, u) :: r, n, v, h => by
  unfold lk at h
  cases hk : n == k with
  | true => rw [hk] at h; simp at h hk; subst h; subst hk; simp
  | false => rw [hk] at h; simp at h; exact List.mem_cons_of_mem _ (ztx h)
theorem zxo {α : Type} : ∀ {l : List (Nat × α)} {n : Nat}, lk l n = none → n ∉ l.map (·.1)
 | [], _, _ => by simp
 | (k, u) :: r, n, h => by
  unfold lk at h
  cases hk : n == k with
  | true => rw [hk] at h; simp at h
  | false => rw [hk] at h; simp at h hk ⊢; exact ⟨hk, by simpa using zxo h⟩
theorem zn1 {w : World} {I : Nat → Prop} {β : Beta} {b sz : Nat} : ∀ (xs : List (List AV)) (o : Nat), RJe w I β b sz o xs ↔ ∀ (i : Nat) x, xs[i]? = some x → x.length = sz ∧ RJc w I β b (o + i * sz) x
 | [], _ => by simp [RJe]
 | x :: xs, o => by
  constructor
  ·intro h i y hy; exact zhi _ _ _ _ h hy
  ·intro h
   refine ⟨(h 0 x rfl).1, by simpa using (h 0 x rfl).2, (zn1 xs (o + sz)).2 fun i y hy => ?_⟩
   have := h (i + 1) y (by simpa using hy)
   rwa [show o + (i + 1) * sz = o + sz + i * sz by rw [Nat.add_mul]; omega] at this
section rel
variable (hC : Conc C st a w I β φ) (hβ : ∀ m n, lk ρ m = some n → ∀ bl, β n = some bl → βc m = some bl)
include hC hβ
theorem zqd (v v' : AV) {x : Value} (h : le0 st ρ v v') (hx : Rv0 w I β v x) : Rv0 w I βc v' x := by
 unfold le0 at h
 split at h
 ·trivial
 ·subst h; cases hx
  show RI w I _ _
  rw [RI]
  exact ⟨none, 0, rfl, by simp, .inl rfl⟩
 ·rename_i n off len sz xs
  obtain ⟨ys, hob, hle, rfl⟩ := h
  exact zk3 (βc := βc) (ν := fun _ => none) hC (fun _ _ h => by cases h) (.arr n off len) (.sl sz ((ys.drop off).take len)) (by rintro n' o' l' he; cases he; intro sz' ys' hh; rw [hob] at hh; cases hh) ⟨ys, .inr hob, hle, rfl⟩ hx
 ·subst h
  unfold renV at hx
  split at hx
  ·split at hx
   ·rename_i m hm
    obtain ⟨bl, hb, hr⟩ := hx
    exact ⟨bl, hβ _ _ hm bl hb, hr⟩
   ·exact hx.elim
  ·split at hx
   ·rename_i m hm
    obtain ⟨bl, hb, hr⟩ := hx
    exact ⟨bl, hβ _ _ hm bl hb, hr⟩
   ·exact hx.elim
  ·split at hx
   ·rename_i m hm
    obtain ⟨bl, hb, hr⟩ := hx
    exact ⟨bl, hβ _ _ hm bl hb, hr⟩
   ·exact hx.elim
  ·rename_i h1 h2 h3
   cases v' <;> first | exact hx | exact (h1 _ _ _ rfl).elim | exact (h2 _ _ rfl).elim | exact (h3 _ _ _ rfl).elim
theorem zjd : ∀ (l l' : List AV) {vs : List Value}, le0s st ρ l l' → Rv0s w I β l vs → Rv0s w I βc l' vs
 | [], l', vs, h, hx => by cases h; exact hx
 | c :: cs, [], vs, h, hx => h.elim
 | c :: cs, c' :: cs', vs, h, hx => by
  obtain ⟨v, vs', rfl, h1, h2⟩ := hx
  exact ⟨v, vs', rfl, zqd hC hβ c c' h.1 h1, zjd cs cs' h.2 h2⟩
theorem zdg (v v' : AV) {x : Value} (h : le1 st ρ v v') (hx : Rv1 w I β v x) : Rv1 w I βc v' x := by
 by_cases hu : v' = .undef
 ·subst hu; trivial
 by_cases hf : ∃ f x y, v = .fn f x y
 ·obtain ⟨f, p, q, rfl⟩ := hf
  cases v' with
  | fn f' x' y' =>
   obtain ⟨rfl, h1, h2⟩ := h
   obtain ⟨vs, us, rfl, h3, h4⟩ := hx
   exact ⟨vs, us, rfl, zjd hC hβ _ _ h1 h3, zjd hC hβ _ _ h2 h4⟩
  | undef => trivial
  | arr n o l => simp [le1, le0, renV] at h; split at h <;> cases h
  | ptr n o => simp [le1, le0, renV] at h; split at h <;> cases h
  | eptr n o l => simp [le1, le0, renV] at h; split at h <;> cases h
  | _ => simp [le1, le0, renV] at h
 ·have hx0 : Rv0 w I β v x := by cases v <;> first | exact hx | exact (hf ⟨_, _, _, rfl⟩).elim
  have hm : le0 st ρ v v' := by cases v <;> first | exact (hf ⟨_, _, _, rfl⟩).elim | (cases v' <;> exact h)
  have := zqd hC hβ v v' hm hx0
  cases v' <;> first | exact this | exact this.elim
theorem zmv : ∀ (l l' : List AV) {vs : List Value}, le1s st ρ l l' → Rv1s w I β l vs → Rv1s w I βc l' vs
 | [], l', vs, h, hx => by cases h; exact hx
 | c :: cs, [], vs, h, hx => h.elim
 | c :: cs, c' :: cs', vs, h, hx => by
  obtain ⟨v, vs', rfl, h1, h2⟩ := hx
  exact ⟨v, vs', rfl, zdg hC hβ c c' h.1 h1, zmv cs cs' h.2 h2⟩
theorem zje : ∀ (l l' : List AV) (b o : Nat), le1s st ρ l l' → Rcs w I β b o l → Rcs w I βc b o l'
 | [], l', b, o, h, hx => by cases h; trivial
 | c :: cs, [], b, o, h, hx => h.elim
 | c :: cs, c' :: cs', b, o, h, hx => by
  obtain ⟨⟨v, hv, h1⟩, h2⟩ := hx
  exact ⟨⟨v, hv, zdg hC hβ c c' h.1 h1⟩, zje cs cs' b (o + 1) h.2 h2⟩
theorem zlb : ∀ (l l' : List AV) (b o : Nat), le1s st ρ l l' → RJc w I β b o l → RJc w I βc b o l'
 | [], l', b, o, h, hx => by cases h; trivial
 | c :: cs, [], b, o, h, hx => h.elim
 | c :: cs, c' :: cs', b, o, h, hx => by
  obtain ⟨⟨v, hv, h1, h1'⟩, h2⟩ := hx
  exact ⟨⟨v, hv, zdg hC hβ c c' h.1 h1, h1'⟩, zlb cs cs' b (o + 1) h.2 h2⟩
theorem zhk : ∀ (l l' : List AV), le1s st ρ l l' → l'.length = l.length
 | [], l', h => by cases h; rfl
 | c :: cs, [], h => h.elim
 | c :: cs, c' :: cs', h => by simp [zhk cs cs' h.2]
theorem zxp (v v' : AV) {x : Value} (h : le2 st ρ v v') (hx : Rv w I β v x) : Rv w I βc v' x := by
 by_cases hu : v' = .undef
 ·subst hu; trivial
 cases v with
 | tup vs => exact (hu h).elim
 | agg cs =>
  cases v' with
  | agg cs' =>
   obtain ⟨vs, rfl, h1⟩ := hx
   exact ⟨vs, rfl, zmv hC hβ _ _ h h1⟩
  | arr n o l => simp [le2, le1, le0, renV] at h; split at h <;> cases h
  | ptr n o => simp [le2, le1, le0, renV] at h; split at h <;> cases h
  | eptr n o l => simp [le2, le1, le0, renV] at h; split at h <;> cases h
  | undef => trivial
  | _ => simp [le2, le1, le0, renV] at h
 | ot _ _ => exact hx.elim
 | undef =>
  cases v' with
  | arr n o l => simp [le2, le1, le0, renV] at h; split at h <;> cases h
  | ptr n o => simp [le2, le1, le0, renV] at h; split at h <;> cases h
  | eptr n o l => simp [le2, le1, le0, renV] at h; split at h <;> cases h
  | undef => trivial
  | _ => simp [le2, le1, le0, renV] at h
 | g q => exact zgk _ _ (zdg hC hβ (.g q) v' h hx)
 | s q => exact zgk _ _ (zdg hC hβ (.s q) v' h hx)
 | sl p q => exact zgk _ _ (zdg hC hβ (.sl p q) v' h hx)
 | arr p q r => exact zgk _ _ (zdg hC hβ (.arr p q r) v' h hx)
 | ptr p q => exact zgk _ _ (zdg hC hβ (.ptr p q) v' h hx)
 | eptr p q r => exact zgk _ _ (zdg hC hβ (.eptr p q r) v' h hx)
 | ip q => exact zgk _ _ (zdg hC hβ (.ip q) v' h hx)
 | fn p q r => exact zgk _ _ (zdg hC hβ (.fn p q r) v' h hx)
end rel
theorem zqe {st : St} {ρ : Ren} : ∀ {e : List (Nat × AV)}, leEnv st ρ e → ∀ n v, lk e n = some v → le2 st ρ (st.env n) v
 | (k, u) :: r, h, n, v, hl => by
  unfold lk at hl
  cases hk : n == k with
  | true => rw [hk] at hl; simp at hl hk; subst hl; subst hk; exact h.1
  | false => rw [hk] at hl; exact zqe h.2 n v hl
theorem zhv {st : St} {ρ : Ren} : ∀ {os : List (Nat × OB)}, leObs st ρ os → ∀ n o, lk os n = some o → ∃ m p, lk ρ n = some m ∧ st.ob m = some p ∧ leO st ρ p o
 | (k, u) :: r, h, n, o, hl => by
  unfold lk at hl
  cases hk : n == k with
  | true =>
   rw [hk] at hl; simp at hl hk; subst hl; subst hk
   have h1 := h.1
   split at h1
   ·rename_i m hm
    split at h1
    ·rename_i p hp
     exact ⟨m, p, hm, hp, h1⟩
    ·exact h1.elim
   ·exact h1.elim
  | false => rw [hk] at hl; exact zhv h.2 n o hl
theorem lk_inj {ρ : Ren} (hnd : (ρ.map (·.2)).Nodup) {n m k : Nat} (h1 : lk ρ n = some k) (h2 : lk ρ m = some k) : n = m := by
 have a1 := ztx h1
 have a2 := ztx h2
 obtain ⟨i, hi⟩ := List.getElem?_of_mem a1
 obtain ⟨j, hj⟩ := List.getElem?_of_mem a2
 have b1 : (ρ.map (·.2))[i]? = some k := by simp [hi]
 have b2 : (ρ.map (·.2))[j]? = some k := by simp [hj]
 obtain ⟨p1, p2⟩ := List.getElem?_eq_some_iff.1 b1
 obtain ⟨q1, q2⟩ := List.getElem?_eq_some_iff.1 b2
 have hij : i = j := (List.getElem_inj hnd).1 (p2.trans q2.symm)
 subst hij
 rw [hi] at hj
 cases hj; rfl
theorem LeSt.sound (hC : Conc C st a w I β φ) {fs : List Nat} (hfs : ∀ n, C.β0 n ≠ none → n ∈ fs) {e : List (Nat × AV)} {os : List (Nat × OB)} (h : LeSt fs st ρ e os) : CC C (mkSt e os) a w := by
 obtain ⟨h1, h2, h3, h4, h5, h6, h7⟩ := h
 let βc : Beta := fun m => (lk ρ m).bind β
 let φc : Nat → List Nat := fun m => match lk ρ m with | some n => φ n | none => []
 have hβc : ∀ m n, lk ρ m = some n → ∀ bl, β n = some bl → βc m = some bl := by
  intro m n hm bl hb
  show (lk ρ m).bind β = some bl
  rw [hm]; exact hb
 have hnone : ∀ n, lk os n = none → lk ρ n = none := by
  intro n hn
  have := zxo hn
  rw [← h5] at this
  cases hh : lk ρ n with
  | none => rfl
  | some m => exact (this (List.mem_map.2 ⟨(n, m), ztx hh, rfl⟩)).elim
 refine ⟨I, βc, φc, ⟨hC.evo, hC.immLt, hC.imm0, hC.immNew, hC.sz, hC.dfr, ?_, ?_, ?_, ?_, ?_, ?_, ?_, ?_, hC.ylt, ?_, hC.xlt, ?_⟩⟩
 ·intro t
  show Rv w I βc ((lk e t).getD .undef) _
  cases hl : lk e t with
  | none => exact trivial
  | some v => exact zxp hC hβc _ v (zqe h1 t v hl) (hC.env t)
 ·intro n o ho
  obtain ⟨m, p, hm, hp, hle⟩ := zhv h2 n o ho
  have hro := hC.ob m p hp
  have hφ : φc n = φ m := by show (match lk ρ n with | some n => φ n | none => []) = _; rw [hm]
  rw [hφ]
  cases p <;> cases o <;> first | exact hle.elim | skip
  ·obtain ⟨bl, g1, g2, ⟨arr, ty, g3, g4⟩, g5⟩ := hro
   exact ⟨bl, hβc _ _ hm _ g1, g2, ⟨arr, ty, g3, by rw [zhk hC hβc _ _ hle]; exact g4⟩, zje hC hβc _ _ _ _ hle g5⟩
  ·obtain ⟨bl, g1, g2, g3⟩ := hro
   exact ⟨bl, hβc _ _ hm _ g1, g2, zje hC hβc _ _ _ _ hle g3⟩
  ·obtain ⟨rfl, rfl⟩ := hle
   obtain ⟨bl, g1, g2⟩ := hro
   exact ⟨bl, hβc _ _ hm _ g1, g2⟩
  ·obtain ⟨rfl, rfl⟩ := hle
   obtain ⟨bl, g1, g2, g3, g4, g5⟩ := hro
   exact ⟨bl, hβc _ _ hm _ g1, g2, g3, g4, g5.imp id fun g => ⟨g.1, g.2.1, zgb _ _ g.2.2⟩⟩
  ·obtain ⟨rfl, rfl, hs⟩ := hle
   obtain ⟨bl, g1, g2, g3, g4, g5⟩ := hro
   exact ⟨bl, hβc _ _ hm _ g1, g2, g3, g4, by rcases g5 with ⟨-, h⟩ | ⟨h, -⟩ <;> rw [h] <;> simp, g5.imp id fun g => ⟨[], g.1, g.2.1, zfk (I := I) (β := β) _ _ hs (zgb _ _ g.2.2)⟩⟩
  ·obtain ⟨rfl, rfl⟩ := hle
   obtain ⟨bl, g1, g2⟩ := hro
   exact ⟨bl, hβc _ _ hm _ g1, g2⟩
  ·exact hro
  ·obtain ⟨rfl, hle⟩ := hle
   obtain ⟨bl, g1, g2, g3, g4, g5⟩ := hro
   rcases hle with ⟨rfl, hs⟩ | ⟨hl, hle⟩
   ·exact ⟨bl, hβc _ _ hm _ g1, g2, g3, g4, g5.imp id fun g => ⟨g.1, g.2.1, RJe_scal _ _ hs g.2.2⟩⟩
   ·refine ⟨bl, hβc _ _ hm _ g1, g2, g3, by omega, g5.imp id fun g => ⟨g.1, g.2.1, ?_⟩⟩
    rw [zn1]
    have hg := (zn1 _ _).1 g.2.2
    intro i x' hx'
    obtain ⟨x, hx, hxx⟩ := hle i x' hx'
    obtain ⟨k1, k2⟩ := hg i x hx
    exact ⟨by rw [zhk hC hβc _ _ hxx]; exact k1, zlb hC hβc _ _ _ _ hxx k2⟩
  ·obtain ⟨rfl, rfl, hs⟩ := hle
   obtain ⟨bl, g1, g2, g3, g4, g5⟩ := hro
   exact ⟨bl, hβc _ _ hm _ g1, g2, g3, g4, by rcases g5 with ⟨-, h⟩ | ⟨h, -⟩ <;> rw [h] <;> simp, g5.imp id fun g => ⟨[], g.1, g.2.1, zfk (I := I) (β := β) _ _ hs g.2.2⟩⟩
  ·obtain ⟨rfl, rfl, hs⟩ := hle
   obtain ⟨bl, g1, g2, g3, g4, g5, g6⟩ := hro
   refine ⟨bl, hβc _ _ hm _ g1, g2, g3, g4, ?_⟩
   rcases g6 with g6 | ⟨F', g6, g7, g8⟩
   ·exact .inl g6
   ·obtain ⟨k1, rfl⟩ := znr (I := I) (β := βc) _ _ _ hs g8
    exact .inr ⟨g6, g7, k1⟩
  ·obtain ⟨rfl, rfl⟩ := hle
   obtain ⟨bl, g1, g2⟩ := hro
   exact ⟨bl, hβc _ _ hm _ g1, g2⟩
  ·cases hle; exact hro
  ·obtain ⟨rfl, rfl⟩ := hle
   obtain ⟨bl, g1, g2, g3, g4, g5, g6⟩ := hro
   exact ⟨bl, hβc _ _ hm _ g1, g2, g3, g4, g5, g6.imp id fun ⟨F', k1, k2, k3, _⟩ => ⟨F', k1, k2, k3⟩⟩
 ·intro n hn
  show (lk ρ n).bind β = none
  rw [hnone n hn]; rfl
 ·intro n hn
  show (match lk ρ n with | some n => φ n | none => []) = _
  rw [hnone n hn]
 ·intro n m hnm b hb hb'
  simp only [φc] at hb hb'
  split at hb
  ·rename_i k hk
   split at hb'
   ·rename_i k' hk'
    exact hC.sep k k' (by rintro rfl; exact hnm (lk_inj h4 hk hk')) b hb hb'
   ·simp at hb'
  ·simp at hb
 ·intro n b hb
  simp only [φc] at hb
  split at hb
  ·exact hC.nimm _ b hb
  ·simp at hb
 ·intro n b hb
  simp only [φc] at hb
  split at hb
  ·exact hC.flt _ b hb
  ·simp at hb
 ·intro n o ho hwr b hb
  obtain ⟨m, p, hm, hp, hle⟩ := zhv h2 n _ ho
  simp only [φc, hm] at hb
  cases p <;> first | exact hC.wok m _ hp rfl b hb | skip
  ·cases o <;> first | exact hle.elim | cases hwr
  ·intro hy
   have := hC.fnew m _ _ hp b hb
   have := hC.ylt b hy
   omega
  ·cases o <;> first | exact hle.elim | cases hwr
  ·cases o <;> first | exact hle.elim | cases hwr
 ·intro n sz xs ho b hb
  obtain ⟨m, p, hm, hp, hle⟩ := zhv h2 n _ ho
  simp only [φc, hm] at hb
  cases p <;> first | exact hle.elim | exact hC.fnew m _ _ hp b hb
 ·intro n bl hb
  exact hβc n n (h7 n (hfs n (by rw [hb]; simp))) bl (hC.bet n bl hb)
end
end Go.Proofs.Ytmheohnbkaoipaa.Vs
end

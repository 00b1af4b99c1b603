import Derived.Test.YtpaccfeiaekacaaVsK
namespace Go.Proofs.Ytpaccfeiaekacaa.Vs
set_option linter.unusedVariables false
set_option linter.unusedSimpArgs false
set_option linter.unusedSectionVars false
set_option linter.unnecessarySimpa false
set_option linter.all false
open Go.RowKit
variable {P : Program}
section
variable {C : Cx} {st : St} {a : Act} {w : World} {I : Nat → Prop} {β : Beta} {φ : Nat → List Nat}
theorem RIe_elem {b sz o : Nat} {xs : List (List AV)} (h : RIe w I b sz o xs) (i : Nat) (hi : i < xs.length) : RIc w I b (o + i * sz) (xs.getD i []) := by
  rw [List.getD_eq_getElem?_getD, List.getElem?_eq_getElem hi, Option.getD_some]
  exact (RIe_get _ _ _ _ h (List.getElem?_eq_getElem hi)).2
theorem indexAddr_sound (hC : Conc C st a w I β φ) {t : TypeId} {x i v : AV} {p q : Value} {c : Prop} {u : Ups} (hx : Rv w I β x p) (hi : Rv w I β i q)
    (h : aIndexAddr P st t x i = some (c, v, u)) (hc : c) : Good P C st a w (Instr.indexAt t p q) v u := by
  unfold aIndexAddr at h
  split at h
  · rename_i T x k n hT
    obtain ⟨d, inf, z, hd, hinf, hz, rfl⟩ := ti_spec hT
    cases hi
    simp only at h
    split at h
    · rename_i e m off len hk
      cases d <;> simp only [tkOf, TK.slice.injEq, reduceCtorEq] at hk
      rw [hk] at hd
      split at h
      · rename_i E hE
        obtain ⟨d', i', z', hd', hi', hz', rfl⟩ := ti_spec hE
        obtain ⟨bl, hb, hle, hp⟩ := hx
        have key : ∀ sz, bl.sz = sz → (0 ≤ n ∧ n < len ∧ i'.size = sz) → Good P C st a w (Instr.indexAt t p (.int k n)) (.eptr m (off + n.toNat) 0) [] := by
          rintro sz hs ⟨h1, h2, h3⟩
          rcases hp with rfl | ⟨h0, a0, rfl⟩
          · refine good_pure hC (y := .pointer (some ⟨bl.b, bl.o + ((off + n.toNat) * bl.sz + 0), none⟩)) ?_ ⟨bl, hb, rfl⟩
            simp [Instr.indexAt, asIntOf, run_underlying hd, h1, h2, sizeOf, typeInfo, hi', Addr.add_lit, h3, hs]
            rw [Nat.add_mul]; omega
          · omega
        split at h
        · rename_i sz xs hob
          cases h
          obtain ⟨bl', hb', h1, -⟩ := hC.ob _ _ hob
          rw [hb] at hb'; cases hb'
          exact key sz h1 hc
        · rename_i sz xs hob
          cases h
          obtain ⟨bl', hb', h1, -⟩ := hC.ob _ _ hob
          rw [hb] at hb'; cases hb'
          exact key sz h1 hc
        · rename_i sz xs hob
          cases h
          obtain ⟨bl', hb', h1, -⟩ := hC.ob _ _ hob
          rw [hb] at hb'; cases hb'
          exact key sz h1 hc
        · cases h
      · cases h
    · rename_i e sz xs hk
      cases d <;> simp only [tkOf, TK.slice.injEq, reduceCtorEq] at hk
      rw [hk] at hd
      split at h
      · rename_i E hE
        obtain ⟨d', i', z', hd', hi', hz', rfl⟩ := ti_spec hE
        cases h
        obtain ⟨h1, h2, h3⟩ := hc
        change RI w I (.sl sz xs) p at hx
        rw [RI] at hx
        obtain ⟨a', cap, rfl, -, rfl | ⟨b, o, rfl, hIb, hr⟩⟩ := hx
        · simp at h2; omega
        · have h3' : i'.size = sz := h3
          refine good_pure hC (y := .pointer (some ⟨b, o + n.toNat * sz, none⟩)) ?_ ⟨b, _, rfl, hIb, RIe_elem hr _ (by omega)⟩
          simp [Instr.indexAt, asIntOf, run_underlying hd, h1, h2, sizeOf, typeInfo, hi', Addr.add_lit, h3']
      · cases h
    · rename_i len e m off hk
      cases d <;> simp only [tkOf, TK.array.injEq, reduceCtorEq] at hk
      rw [hk.1, hk.2] at hd
      split at h
      · rename_i E hE
        obtain ⟨d', i', z', hd', hi', hz', rfl⟩ := ti_spec hE
        cases h
        obtain ⟨h1, h2⟩ := hc
        obtain ⟨bl, hb, rfl⟩ := hx
        refine good_pure hC (y := .pointer (some ⟨bl.b, bl.o + (off + n.toNat * i'.size), none⟩)) ?_ ⟨bl, hb, rfl⟩
        simp [Instr.indexAt, Instr.sureAddr, asIntOf, run_underlying hd, h1, h2, sizeOf, typeInfo, hi', Addr.add_lit, Nat.add_assoc]
      · cases h
    · cases h
  · cases h
theorem placeOf_spec : ∀ (fs : List Field) (f o size : Nat), placeOf P (fs.map fun f => (f.offset, f.type)) f = some (o, size) → ∃ fd i, fs[f]? = some fd ∧ P.info? fd.type = some i ∧ fd.offset = o ∧ i.size = size
  | [], _, _, _, h => by cases h
  | fd :: fs, 0, o, size, h => by
    simp only [List.map_cons, placeOf] at h
    split at h
    · rename_i T hT
      obtain ⟨d, i, z, hd, hi, hz, rfl⟩ := ti_spec hT
      cases h
      exact ⟨fd, i, rfl, hi, rfl, rfl⟩
    · cases h
  | fd :: fs, f + 1, o, size, h => by
    simp only [List.map_cons, placeOf] at h
    simpa using placeOf_spec fs f o size h
theorem fieldAddr_sound (hC : Conc C st a w I β φ) {t : TypeId} {x v : AV} {f : Nat} {p : Value} {c : Prop} {u : Ups} (hx : Rv w I β x p)
    (h : aFieldAddr P t x f = some (c, v, u)) : Good P C st a w (Instr.fieldAt t p f) v u := by
  unfold aFieldAddr at h
  split at h
  · rename_i T hT
    obtain ⟨d, inf, z, hd, hinf, hz, rfl⟩ := ti_spec hT
    simp only at h
    split at h
    · rename_i fs hk
      cases d <;> simp only [tkOf, TK.struct.injEq, reduceCtorEq] at hk
      rename_i fields
      subst hk
      split at h
      · rename_i o size hpl
        obtain ⟨fd, i, hfd, hi, rfl, rfl⟩ := placeOf_spec _ _ _ _ hpl
        have hfd' : fields[f]? = some fd := by simpa using hfd
        split at h
        · cases h
        · rename_i h0
          have run : ∀ b o', (Instr.fieldAt t (.pointer (some ⟨b, o', none⟩)) f).run P w = .ok (.pointer (some ⟨b, o' + fd.offset, none⟩)) w := by
            intro b o'
            simp [Instr.fieldAt, run_underlying hd, hfd', Instr.sureAddr, fieldPlace, sizeOf, typeInfo, hi, h0, Addr.add_lit]
          split at h
          · cases h
            obtain ⟨bl, hb, rfl⟩ := hx
            exact good_pure hC (run _ _) ⟨bl, hb, by rw [Nat.add_assoc]⟩
          · cases h
            obtain ⟨bl, hb, rfl⟩ := hx
            exact good_pure hC (run _ _) ⟨bl, hb, by rw [Nat.add_assoc, Nat.add_assoc]⟩
          · cases h
            obtain ⟨b, o', rfl, hI, hr⟩ := hx
            exact good_pure hC (run _ _) ⟨b, _, rfl, hI, RIc_drop _ _ _ hr⟩
          · cases h
      · cases h
    · cases h
  · cases h
theorem Rv1s_take : ∀ (n : Nat) (cs : List AV) (vs : List Value), Rv1s w I β cs vs → Rv1s w I β (cs.take n) (vs.take n)
  | 0, _, _, _ => by simp [Rv1s]
  | n + 1, [], vs, h => by cases h; simp [Rv1s]
  | n + 1, c :: cs, _, h => by obtain ⟨v, vs', rfl, h1, h2⟩ := h; exact ⟨v, vs'.take n, rfl, h1, Rv1s_take n cs vs' h2⟩
theorem Rv1s_drop : ∀ (n : Nat) (cs : List AV) (vs : List Value), Rv1s w I β cs vs → Rv1s w I β (cs.drop n) (vs.drop n)
  | 0, _, _, h => by simpa using h
  | n + 1, [], vs, h => by cases h; simp [Rv1s]
  | n + 1, c :: cs, _, h => by obtain ⟨v, vs', rfl, h1, h2⟩ := h; exact Rv1s_drop n cs vs' h2
theorem field_sound (hC : Conc C st a w I β φ) {t : TypeId} {x v : AV} {f : Nat} {p : Value} {c : Prop} {u : Ups} (hx : Rv w I β x p)
    (h : aField P t x f = some (c, v, u)) : Good P C st a w (Instr.field t p f) v u := by
  unfold aField at h
  split at h
  · rename_i T cs hT
    obtain ⟨d, inf, z, hd, hinf, hz, rfl⟩ := ti_spec hT
    obtain ⟨vs, rfl, hr⟩ := hx
    simp only at h
    split at h
    · rename_i fs hk
      cases d <;> simp only [tkOf, TK.struct.injEq, reduceCtorEq] at hk
      rename_i fields
      subst hk
      split at h
      · rename_i o ft hf
        have hf' : ∃ fd, fields[f]? = some fd ∧ fd.offset = o ∧ fd.type = ft := by
          rw [List.getElem?_map] at hf
          cases hh : fields.toList[f]? with
          | none => simp [hh] at hf
          | some fd => simp [hh] at hf; exact ⟨fd, by simpa using hh, hf.1, hf.2⟩
        obtain ⟨fd, hfd, rfl, rfl⟩ := hf'
        split at h
        · rename_i F hF
          obtain ⟨d', i', z', hd', hi', hz', rfl⟩ := ti_spec hF
          simp only at h
          split at h
          · rename_i hag
            cases h
            refine good_pure hC (y := .agg ⟨(vs.drop fd.offset).take i'.size⟩) ?_ ⟨_, rfl, Rv1s_take _ _ _ (Rv1s_drop _ _ _ hr)⟩
            simp [Instr.field, run_underlying hd, hfd, part, aggOf_run hd', hag, asAgg, sizeOf, typeInfo, hi']
          · rename_i hag
            split at h
            · rename_i c0 rest hdr
              cases h
              have hag' : aggOf d' = false := by simpa using hag
              have h1 := Rv1s_drop fd.offset _ _ hr
              rw [hdr] at h1
              obtain ⟨v0, vs', hv, hrv, -⟩ := h1
              have hvo : vs[fd.offset]? = some v0 := by
                have := congrArg (·[0]?) hv
                simpa using this
              refine good_pure hC (y := v0) ?_ (Rv1_Rv _ _ hrv)
              simp [Instr.field, run_underlying hd, hfd, part, aggOf_run hd', hag', asAgg, hvo]
            · cases h
        · cases h
      · cases h
    · cases h
  · cases h
theorem index_sound (hC : Conc C st a w I β φ) {t : TypeId} {x i v : AV} {p q : Value} {c : Prop} {u : Ups} (hx : Rv w I β x p) (hi : Rv w I β i q)
    (h : aIndex P t x i = some (c, v, u)) (hc : c) : Good P C st a w (Instr.index t p q) v u := by
  unfold aIndex at h
  split at h
  · rename_i ag sz by' zr l k n hT
    obtain ⟨d, inf, z, hd, hinf, hz, hTe⟩ := ti_spec hT
    have hk : tkOf d = .str := by have := congrArg TI.kind hTe; simpa using this.symm
    have ht : P.underlying t = some .string := by
      cases d <;> simp only [tkOf, reduceCtorEq] at hk
      exact hd
    cases h; cases hx; cases hi
    obtain ⟨h1, h2⟩ := hc
    have hlt : n.toNat < l.length := by omega
    have hlt' : n.toNat < (⟨l.toArray⟩ : ByteArray).size := by simpa [ByteArray.size] using hlt
    have hb : (⟨l.toArray⟩ : ByteArray)[n.toNat]? = some (l.getD n.toNat 0) := by
      rw [getElem?_pos (⟨l.toArray⟩ : ByteArray) n.toNat hlt']
      simp [ByteArray.getElem_eq_getElem_data, List.getD_eq_getElem?_getD, hlt]
    refine good_pure hC (y := .int .u8 (l.getD n.toNat 0).toNat) ?_ rfl
    simp only [Instr.index, Sem.run_bind, asIntOf, run_underlying ht]
    simp [h1, hb]
  · cases h
end
end Go.Proofs.Ytpaccfeiaekacaa.Vs
namespace Go.Proofs.Ytpaccfeiaekacaa.Vs
set_option linter.unusedVariables false
set_option linter.unusedSimpArgs false
set_option linter.unusedSectionVars false
set_option linter.unnecessarySimpa false
set_option linter.all false
open Go.RowKit
variable {P : Program}
section
variable {C : Cx} {st : St} {a : Act} {w : World} {I : Nat → Prop} {β : Beta} {φ : Nat → List Nat}
theorem ti_string {t : TypeId} {T : TI} (h : ti P t = some T) (hk : T.kind = .str) : P.underlying t = some .string := by
  obtain ⟨d, inf, z, hd, hinf, hz, rfl⟩ := ti_spec h
  cases d <;> simp only [tkOf, reduceCtorEq] at hk
  exact hd
theorem ti_slice {t e : TypeId} {T : TI} (h : ti P t = some T) (hk : T.kind = .slice e) : P.underlying t = some (.slice e) := by
  obtain ⟨d, inf, z, hd, hinf, hz, rfl⟩ := ti_spec h
  cases d <;> simp only [tkOf, reduceCtorEq, TK.slice.injEq] at hk
  rw [hk] at hd; exact hd
theorem ti_array {t e : TypeId} {n : Nat} {T : TI} (h : ti P t = some T) (hk : T.kind = .array n e) : P.underlying t = some (.array n e) := by
  obtain ⟨d, inf, z, hd, hinf, hz, rfl⟩ := ti_spec h
  cases d <;> simp only [tkOf, reduceCtorEq, TK.array.injEq] at hk
  rw [hk.1, hk.2] at hd; exact hd
theorem ti_int {t : TypeId} {k : IntKind} {T : TI} (h : ti P t = some T) (hk : T.kind = .int k) : P.underlying t = some (.int k) := by
  obtain ⟨d, inf, z, hd, hinf, hz, rfl⟩ := ti_spec h
  cases d <;> simp only [tkOf, reduceCtorEq, TK.int.injEq] at hk
  rw [hk] at hd; exact hd
theorem size_of_list (l : List UInt8) : (⟨l.toArray⟩ : ByteArray).size = l.length := by simp [ByteArray.size]
theorem toList_of_list (l : List UInt8) : (⟨l.toArray⟩ : ByteArray).toList = l := by
  rw [ByteArray.toList_eq]
def RvO (w : World) (I : Nat → Prop) (β : Beta) : Option AV → Option Value → Prop
  | none, y => y = none
  | some x, y => ∃ v, y = some v ∧ Rv w I β x v
theorem bound_lo {x : Option AV} {y : Option Value} {c : Prop} {n d : Nat} (hr : RvO w I β x y) (h : optIdx d x = some (c, n)) (hc : c) :
    (y = none ∧ n = d) ∨ ∃ k i, y = some (.int k i) ∧ 0 ≤ i ∧ n = i.toNat := by
  unfold optIdx at h
  split at h
  · cases h; cases hr; exact .inl ⟨rfl, rfl⟩
  · cases h; obtain ⟨v, rfl, hv⟩ := hr; cases hv; exact .inr ⟨_, _, rfl, hc, rfl⟩
  · cases h
theorem run_sliceBounds (sl : Bool) (len cap : Nat) {lo hi : Option Value} {A B : Nat} (hlo : (lo = none ∧ A = 0) ∨ ∃ k i, lo = some (.int k i) ∧ 0 ≤ i ∧ A = i.toNat) (hhi : (hi = none ∧ B = len) ∨ ∃ k i, hi = some (.int k i) ∧ 0 ≤ i ∧ B = i.toNat)
    (h1 : A ≤ B) (h2 : B ≤ len) (h3 : len ≤ cap) : (Instr.sliceBounds sl len cap lo hi none).run P w = .ok (A, B, cap) w := by
  rcases hlo with ⟨rfl, rfl⟩ | ⟨k, i, rfl, hi0, rfl⟩ <;> rcases hhi with ⟨rfl, hB⟩ | ⟨k', i', rfl, hi0', hB⟩
  · subst hB
    simp [Instr.sliceBounds]
  · simp [Instr.sliceBounds, Instr.sliceBound, asIntOf, hi0', show i' ≤ (cap : Int) by omega, hB]
  · subst hB
    have hle : i ≤ (B : Int) := by omega
    simp [Instr.sliceBounds, Instr.sliceBound, asIntOf, hi0, hle]
  · have hle : i ≤ (i'.toNat : Int) := by omega
    have hle2 : i ≤ max i' 0 := by omega
    simp [Instr.sliceBounds, Instr.sliceBound, asIntOf, hi0, hi0', show i' ≤ (cap : Int) by omega, hB, hle2]
theorem slice_sound (hC : Conc C st a w I β φ) {t : TypeId} {x v : AV} {lo hi : Option AV} {p : Value} {plo phi : Option Value} {c : Prop} {u : Ups} (hx : Rv w I β x p) (hlo : RvO w I β lo plo) (hhi : RvO w I β hi phi)
    (h : aSlice P st t x lo hi = some (c, v, u)) (hc : c) : Good P C st a w (Instr.sliceAt t p plo phi none) v u := by
  unfold aSlice at h
  split at h
  · rename_i T x' hT
    split at h
    · rename_i l hk
      have ht := ti_string hT hk
      split at h
      · rename_i c1 A c2 B h1 h2
        cases h
        obtain ⟨hc1, hc2, h3, h4⟩ := hc
        cases hx
        have hb := run_sliceBounds (P := P) (w := w) false (⟨l.toArray⟩ : ByteArray).size (⟨l.toArray⟩ : ByteArray).size (bound_lo hlo h1 hc1) (by rw [size_of_list]; exact bound_lo hhi h2 hc2) h3 (by rw [size_of_list]; exact h4) (Nat.le_refl _)
        refine good_pure hC (y := .string ((⟨l.toArray⟩ : ByteArray).extract A B)) ?_ ?_
        · simp [Instr.sliceAt, run_underlying ht, Instr.slice, hb]
        · show Value.string _ = Value.string _
          congr 1
          apply ByteArray.ext
          simp [ByteArray.data_extract]
      · cases h
    · rename_i e sz xs hk
      have ht := ti_slice hT hk
      split at h
      · rename_i E c1 A c2 B hE h1 h2
        obtain ⟨d', i', z', hd', hi', hz', rfl⟩ := ti_spec hE
        cases h
        obtain ⟨hc1, hc2, h3, h4, h5⟩ := hc
        change RI w I (.sl sz xs) p at hx
        rw [RI] at hx
        obtain ⟨a', cap, rfl, hcap, hx⟩ := hx
        have hb := run_sliceBounds (P := P) (w := w) true xs.length cap (bound_lo hlo h1 hc1) (bound_lo hhi h2 hc2) h3 h4 hcap
        have hlen : ((xs.drop A).take (B - A)).length = B - A := by simp; omega
        have h5' : i'.size = sz := h5
        refine good_pure hC (y := .slice (if cap = A then a' else a'.map (·.add (A * i'.size))) (B - A) (cap - A)) ?_ ?_
        · simp [Instr.sliceAt, run_underlying ht, Instr.slice, hb, sizeOf, typeInfo, hi']
        · show RI w I (.sl sz _) _
          rw [RI]
          refine ⟨_, _, by rw [hlen], by rw [hlen]; omega, ?_⟩
          rcases hx with rfl | ⟨b, o, rfl, hI, hr⟩
          · simp
          · by_cases hcA : cap = A
            · have : xs.drop A = [] := by apply List.drop_eq_nil_of_le; omega
              simp [this]
            · rw [if_neg hcA]
              refine .inr ⟨b, o + A * sz, ?_, hI, RIe_take _ _ _ (RIe_drop _ _ _ hr)⟩
              simp [Addr.add_lit, h5']
      · cases h
    · rename_i e n off len hk
      have ht := ti_slice hT hk
      split at h
      · rename_i E c1 A c2 B hE h1 h2
        obtain ⟨d', i', z', hd', hi', hz', rfl⟩ := ti_spec hE
        obtain ⟨bl, hb, hle, hp⟩ := hx
        have fin : i'.size = bl.sz → (c1 ∧ c2 ∧ A ≤ B ∧ B ≤ len) → Good P C st a w (Instr.sliceAt t p plo phi none) (.arr n (off + A) (B - A)) [] := by
          rintro hsz ⟨hc1, hc2, h3, h4⟩
          have key : ∀ a' cap, len ≤ cap → (Instr.sliceAt t (.slice a' len cap) plo phi none).run P w = .ok (.slice (if cap = A then a' else a'.map (·.add (A * i'.size))) (B - A) (cap - A)) w := by
            intro a' cap hcap
            have hb := run_sliceBounds (P := P) (w := w) true len cap (bound_lo hlo h1 hc1) (bound_lo hhi h2 hc2) h3 h4 hcap
            simp [Instr.sliceAt, run_underlying ht, Instr.slice, hb, sizeOf, typeInfo, hi']
          rcases hp with rfl | ⟨h0, a0, rfl⟩
          · refine good_pure hC (key _ _ (by omega)) ⟨bl, hb, by omega, ?_⟩
            by_cases hcA : bl.cap - off = A
            · rw [if_pos hcA]
              refine .inr ⟨by omega, some ⟨bl.b, bl.o + off * bl.sz, none⟩, ?_⟩
              congr 1 <;> omega
            · rw [if_neg hcA]
              refine .inl ?_
              simp only [Option.map_some, Addr.add_lit, hsz, Nat.add_mul, Nat.add_assoc]
              congr 1; omega
          · have hA : A = 0 := by omega
            have hB : B = 0 := by omega
            subst hA; subst hB
            have h00 := key a0 0 (by omega)
            have hl0 : len = 0 := by omega
            subst hl0
            refine good_pure hC h00 ⟨bl, hb, by omega, .inr ⟨by omega, a0, by simp⟩⟩
        split at h
        · rename_i sz xs hob
          cases h
          obtain ⟨bl', hb', h1', -⟩ := hC.ob _ _ hob
          rw [hb] at hb'; cases hb'
          exact fin (hc.2.2.2.2.trans h1'.symm) ⟨hc.1, hc.2.1, hc.2.2.1, hc.2.2.2.1⟩
        · rename_i sz xs hob
          cases h
          obtain ⟨bl', hb', h1', -⟩ := hC.ob _ _ hob
          rw [hb] at hb'; cases hb'
          exact fin (hc.2.2.2.2.trans h1'.symm) ⟨hc.1, hc.2.1, hc.2.2.1, hc.2.2.2.1⟩
        · rename_i sz xs hob
          cases h
          obtain ⟨bl', hb', h1', -⟩ := hC.ob _ _ hob
          rw [hb] at hb'; cases hb'
          exact fin (hc.2.2.2.2.trans h1'.symm) ⟨hc.1, hc.2.1, hc.2.2.1, hc.2.2.2.1⟩
        · cases h
      · cases h
    · cases h
  · cases h
end
end Go.Proofs.Ytpaccfeiaekacaa.Vs

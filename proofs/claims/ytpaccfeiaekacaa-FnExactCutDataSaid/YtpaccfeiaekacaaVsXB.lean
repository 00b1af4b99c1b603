import Derived.Test.YtpaccfeiaekacaaVsXA
namespace Go.Proofs.Ytpaccfeiaekacaa.Vs
set_option linter.unusedVariables false
set_option linter.unusedSimpArgs false
set_option linter.unusedSectionVars false
set_option linter.unnecessarySimpa false
set_option linter.all false
open Go.RowKit
variable {P : Program}
def zipO : List Nat → List OB → Ups
  | n :: ns, o :: os => (n, o) :: zipO ns os
  | _, _ => []
theorem zipO_get : ∀ (ns : List Nat) (os : List OB) (ob : Nat → Option OB), ns.Nodup → ns.length = os.length → (∀ (i n : Nat) o, ns[i]? = some n → os[i]? = some o → updL ob (zipO ns os) n = some o) ∧ ∀ n, n ∉ ns → updL ob (zipO ns os) n = ob n
  | [], [], ob, _, _ => by simp [zipO, updL]
  | n :: ns, o :: os, ob, hnd, hl => by
    simp at hnd
    obtain ⟨h1, h2⟩ := zipO_get ns os (upd ob n (some o)) hnd.2 (by simpa using hl)
    rw [zipO, updL_cons]
    constructor
    · intro i m c hm hc
      cases i with
      | zero =>
        simp at hm hc; subst hm; subst hc
        rw [h2 _ hnd.1, upd_same]
      | succ i => exact h1 i m c (by simpa using hm) (by simpa using hc)
    · intro m hm
      simp at hm
      rw [h2 m hm.2, upd_other _ _ hm.1]
/-- Names in a result, renamed. -/
def rn0 (ρ : Nat → Nat) : AV → AV
  | .arr n o l => .arr (ρ n) o l
  | .ptr n o => .ptr (ρ n) o
  | .eptr n i f => .eptr (ρ n) i f
  | a => a
def rn2 (ρ : Nat → Nat) : AV → AV
  | .agg cs => .agg (cs.map (rn0 ρ))
  | a => rn0 ρ a
def rnT (ρ : Nat → Nat) : AV → AV
  | .tup vs => .tup (vs.map (rn2 ρ))
  | a => rn2 ρ a
def rnO (ρ : Nat → Nat) : OB → OB
  | .cells cs => .cells (cs.map (rn0 ρ))
  | o => o
/-- May it come back? (q: frozen rows may not.) -/
def rk (q : Bool) : AV → Bool
  | .g _ => true
  | .s _ => true
  | .arr .. => true
  | .ptr .. => true
  | .eptr .. => true
  | .undef => true
  | .sl .. => !q
  | .ip _ => !q
  | _ => false
def rk2 (q : Bool) : AV → Bool
  | .agg cs => cs.all (rk q)
  | a => rk q a
def rkT (q : Bool) : AV → Bool
  | .tup vs => vs.all (rk2 q)
  | a => rk2 q a
def rkO (q : Bool) : OB → Bool
  | .cells cs => cs.all (rk q)
  | _ => true
section rn
variable {w : World} {I I' : Nat → Prop} {β β' : Beta} {q : Bool} {ρ : Nat → Nat} (hI : q = false → ∀ b, I b → I' b) (hβ : ∀ n bl, β n = some bl → β' (ρ n) = some bl)
include hI hβ
theorem rn0_sound (c : AV) (v : Value) (hk : rk q c = true) (h : Rv0 w I β c v) : Rv0 w I' β' (rn0 ρ c) v := by
  cases c with
  | g _ => exact h
  | s _ => exact h
  | arr n o l => obtain ⟨bl, h1, h2⟩ := h; exact ⟨bl, hβ _ _ h1, h2⟩
  | ptr n o => obtain ⟨bl, h1, h2⟩ := h; exact ⟨bl, hβ _ _ h1, h2⟩
  | eptr n i f => obtain ⟨bl, h1, h2⟩ := h; exact ⟨bl, hβ _ _ h1, h2⟩
  | undef => trivial
  | sl sz xs => exact RI_mono (hI (by simpa [rk] using hk)) (fun _ _ => rfl) _ _ h
  | ip cs =>
    have hi := hI (by simpa [rk] using hk)
    obtain ⟨b, o, h1, h2, h3⟩ := h
    exact ⟨b, o, h1, hi b h2, RIc_mono hi (fun _ _ => rfl) b h2 o _ h3⟩
  | _ => simp [rk] at hk
theorem rn0_sound1 (c : AV) (v : Value) (hk : rk q c = true) (h : Rv1 w I β c v) : Rv1 w I' β' (rn0 ρ c) v := by
  have h0 : Rv0 w I β c v := by cases c <;> first | exact h | simp [rk] at hk
  have := rn0_sound hI hβ c v hk h0
  cases c <;> first | exact this | simp [rk] at hk
theorem rn1s_sound : ∀ (l : List AV) (vs : List Value), l.all (rk q) = true → Rv1s w I β l vs → Rv1s w I' β' (l.map (rn0 ρ)) vs
  | [], _, _, h => h
  | c :: cs, _, hk, ⟨v, vs', h1, h2, h3⟩ => by
    simp only [List.all_cons, Bool.and_eq_true] at hk
    exact ⟨v, vs', h1, rn0_sound1 hI hβ c v hk.1 h2, rn1s_sound cs vs' hk.2 h3⟩
theorem rncs_sound {b : Nat} : ∀ (l : List AV) (o : Nat), l.all (rk q) = true → Rcs w I β b o l → Rcs w I' β' b o (l.map (rn0 ρ))
  | [], _, _, _ => trivial
  | c :: cs, o, hk, ⟨⟨v, h1, h2⟩, h3⟩ => by
    simp only [List.all_cons, Bool.and_eq_true] at hk
    exact ⟨⟨v, h1, rn0_sound1 hI hβ c v hk.1 h2⟩, rncs_sound cs (o + 1) hk.2 h3⟩
theorem rn2_sound (c : AV) (v : Value) (hk : rk2 q c = true) (h : Rv2 w I β c v) : Rv2 w I' β' (rn2 ρ c) v := by
  by_cases hag : ∃ cs, c = .agg cs
  · obtain ⟨cs, rfl⟩ := hag
    obtain ⟨vs, h1, h2⟩ := h
    exact ⟨vs, h1, rn1s_sound hI hβ cs vs hk h2⟩
  · have h1 : Rv1 w I β c v := by cases c <;> first | exact h | exact (hag ⟨_, rfl⟩).elim
    have hk1 : rk q c = true := by cases c <;> first | exact hk | exact (hag ⟨_, rfl⟩).elim
    have := rn0_sound1 hI hβ c v hk1 h1
    cases c <;> first | exact this | exact (hag ⟨_, rfl⟩).elim | simp [rk] at hk1
theorem rn2s_sound : ∀ (l : List AV) (vs : List Value), l.all (rk2 q) = true → Rv2s w I β l vs → Rv2s w I' β' (l.map (rn2 ρ)) vs
  | [], _, _, h => h
  | c :: cs, _, hk, ⟨v, vs', h1, h2, h3⟩ => by
    simp only [List.all_cons, Bool.and_eq_true] at hk
    exact ⟨v, vs', h1, rn2_sound hI hβ c v hk.1 h2, rn2s_sound cs vs' hk.2 h3⟩
theorem rnT_sound (c : AV) (v : Value) (hk : rkT q c = true) (h : Rv w I β c v) : Rv w I' β' (rnT ρ c) v := by
  by_cases ht : ∃ cs, c = .tup cs
  · obtain ⟨cs, rfl⟩ := ht
    obtain ⟨vs, h1, h2⟩ := h
    exact ⟨vs, h1, rn2s_sound hI hβ cs vs hk h2⟩
  · have h1 : Rv2 w I β c v := Rv_Rv2 _ _ (fun vs e => ht ⟨vs, e⟩) h
    have hk1 : rk2 q c = true := by cases c <;> first | exact hk | exact (ht ⟨_, rfl⟩).elim
    have := Rv2_Rv _ _ (rn2_sound hI hβ c v hk1 h1)
    cases c <;> first | exact this | exact (ht ⟨_, rfl⟩).elim
theorem rnO_sound {n : Nat} (o : OB) (F : List Nat) (hx : o.xk = true) (hk : rkO q o = true) (h : RO w I β n o F) : RO w I' β' (ρ n) (rnO ρ o) F := by
  cases o with
  | cells cs =>
    obtain ⟨bl, h1, h2, h3, h4⟩ := h
    exact ⟨bl, hβ _ _ h1, h2, by simpa using h3, rncs_sound hI hβ cs _ hk h4⟩
  | own sz xs =>
    obtain ⟨bl, h1, h2⟩ := h
    exact ⟨bl, hβ _ _ h1, h2⟩
  | dead => exact h
  | _ => cases hx
end rn
/-- The caller's name of a formal one. -/
def rhoX (hs : List Nat) (nm n : Nat) : Nat := if n < 16 then hs.getD (n - 8) 0 else nm + (n - 16)
/-- The objects that a call turns. -/
def upsX (hs : List Nat) (nm : Nat) (wos' fos : List OB) : Ups := zipO hs (wos'.map (rnO (rhoX hs nm))) ++ zipO ((List.range fos.length).map (nm + ·)) (fos.map (rnO (rhoX hs nm)))
section
variable {C : Cx} {st : St} {a : Act} {w : World} {I : Nat → Prop} {β : Beta} {φ : Nat → List Nat}
theorem axO_RO {q : Bool} {hs Z : List Nat} {I2 : Nat → Prop} {βc : Beta} (hC : Conc C st a w I β φ) (hI2 : ∀ b, I b → I2 b)
    (hV : q = true → ∀ n, hs.contains n = false → ∀ b ∈ φ n, I2 b)
    (hν : ∀ i n, nuX hs i = some n → ∀ bl, β n = some bl → βc i = some bl) (hZ : ∀ n ∈ Z, ∃ bl, β n = some bl ∧ bl.cap = 0) {n i : Nat} (hi : nuX hs i = some n) {o o' : OB} (ho : st.ob n = some o) (h : axO q st hs Z o o') : RO w I2 βc i o' (φ n) := by
  have hro := hC.ob n o ho
  cases o <;> cases o' <;> first | exact h.elim | skip
  · obtain ⟨bl, h1, h2, h3, h4⟩ := hro
    exact ⟨bl, hν _ _ hi _ h1, h2, by rw [ax1s_len _ _ h]; exact h3, ax1s_cells hC.ob hI2 hV hν hZ _ _ _ h h4⟩
  · obtain ⟨rfl, rfl, hs⟩ := h
    obtain ⟨bl, g1, g2, g3, g4, g5⟩ := hro
    exact ⟨bl, hν _ _ hi _ g1, g2, g3, g4, by rcases g5 with ⟨-, h⟩ | ⟨h, -⟩ <;> rw [h] <;> simp, g5.imp id fun g => ⟨[], g.1, g.2.1, RJe_RWe (I := I) (β := β) _ _ hs (RIe_RJe _ _ g.2.2)⟩⟩
  · obtain ⟨rfl, rfl, hs⟩ := h
    obtain ⟨bl, g1, g2, g3, g4, g5⟩ := hro
    exact ⟨bl, hν _ _ hi _ g1, g2, g3, g4, by rcases g5 with ⟨-, h⟩ | ⟨h, -⟩ <;> rw [h] <;> simp, g5.imp id fun g => ⟨[], g.1, g.2.1, RJe_RWe (I := I) (β := β) _ _ hs g.2.2⟩⟩
  · obtain ⟨rfl, rfl⟩ := h
    obtain ⟨bl, g1, g2⟩ := hro
    exact ⟨bl, hν _ _ hi _ g1, g2⟩
theorem axO_noY {q : Bool} {hs Z : List Nat} (hC : Conc C st a w I β φ) {n : Nat} {o o' : OB} (ho : st.ob n = some o) (h : axO q st hs Z o o') : ∀ b ∈ φ n, ¬ C.Y b := by
  intro b hb
  cases o with
  | flat sz xs => intro hy; have := hC.fnew n _ _ ho b hb; have := hC.ylt b hy; omega
  | cells _ => exact hC.wok n _ ho rfl b hb
  | own _ _ => exact hC.wok n _ ho rfl b hb
  | win _ _ => exact hC.wok n _ ho rfl b hb
  | _ => cases o' <;> exact h.elim
theorem xstep_sound (hC : Conc C st a w I β φ) {f : FuncId} {actual args : List AV} {wos wos' fos : List OB} {r : AV} {hs Z : List Nat} {nm : Nat} {q : Bool} {vs : List Value} (hZ : ∀ n ∈ Z, ∃ bl, β n = some bl ∧ bl.cap = 0) (hvs : Rv2s w I β actual vs) (hX : XCall P f args wos r wos' fos)
    (hnd : (hs ++ (List.range fos.length).map (nm + ·)).Nodup) (hargs : ax2s q st hs Z actual args) (hobj : axOs q st hs Z hs wos) (hnm : ∀ k, k < fos.length → st.ob (nm + k) = none) (hr : rkT q r = true) (hro : (wos' ++ fos).all (rkO q) = true) :
    Calls P f ⟨vs⟩ w fun e w' => ∃ y I' β' φ', e = .returned y ∧ Rv w' I' β' (rnT (rhoX hs nm) r) y ∧ Conc C { st with ob := updL st.ob (upsX hs nm wos' fos) } a w' I' β' φ' := by
  obtain ⟨-, hwl, hw8, hxk, hcall⟩ := hX
  obtain ⟨hhl, hget⟩ := axOs_get _ _ hobj
  obtain ⟨hnd1, hnd2, hnd3⟩ := List.nodup_append.1 hnd
  -- the callee's view
  let I2 : Nat → Prop := fun b => I b ∨ (q = true ∧ ∃ n, hs.contains n = false ∧ b ∈ φ n)
  let βc : Beta := fun i => (nuX hs i).bind β
  let χ : Nat → List Nat := fun i => match nuX hs i with | some n => φ n | none => []
  have hI2 : ∀ b, I b → I2 b := fun b h => .inl h
  have hV : q = true → ∀ n, hs.contains n = false → ∀ b ∈ φ n, I2 b := fun hq n hn b hb => .inr ⟨hq, n, hn, hb⟩
  have hν : ∀ i n, nuX hs i = some n → ∀ bl, β n = some bl → βc i = some bl := by
    intro i n hi bl hb
    show (nuX hs i).bind β = _
    rw [hi]; exact hb
  have hχ : ∀ i b, b ∈ χ i → ∃ n, nuX hs i = some n ∧ b ∈ φ n := by
    intro i b hb
    simp only [χ] at hb
    split at hb
    · rename_i n hn; exact ⟨n, hn, hb⟩
    · simp at hb
  have hχ' : ∀ i n, nuX hs i = some n → χ i = φ n := by
    intro i n hi
    simp only [χ, hi]
  have hnu : ∀ i n, nuX hs i = some n → n ∈ hs := by
    intro i n hi
    unfold nuX at hi
    split at hi
    · cases hi
    · exact List.mem_of_getElem? hi
  have hnui : ∀ i n, nuX hs i = some n → 8 ≤ i ∧ i - 8 < hs.length ∧ hs[i - 8]? = some n := by
    intro i n hi
    unfold nuX at hi
    split at hi
    · cases hi
    · exact ⟨by omega, (List.getElem?_eq_some_iff.1 hi).1, hi⟩
  have hinj : ∀ i j n, nuX hs i = some n → nuX hs j = some n → i = j := by
    intro i j n hi hj
    obtain ⟨h1, h2, h3⟩ := hnui i n hi
    obtain ⟨g1, g2, g3⟩ := hnui j n hj
    obtain ⟨p1, p2⟩ := List.getElem?_eq_some_iff.1 h3
    obtain ⟨q1, q2⟩ := List.getElem?_eq_some_iff.1 g3
    have := (List.getElem_inj hnd1).1 (p2.trans q2.symm)
    omega
  have hpost0 : ∀ n o, postOb wos [] n = some o → 8 ≤ n ∧ n < 16 ∧ wos[n - 8]? = some o := by
    intro n o h
    unfold postOb at h
    split at h
    · split at h
      · cases h
      · exact ⟨by omega, by omega, h⟩
    · simp at h
  have hpost0n : ∀ n, postOb wos [] n = none → nuX hs n = none := by
    intro n h
    unfold postOb at h
    unfold nuX
    split at h
    · split at h
      · rw [if_pos (by assumption)]
      · rw [if_neg (by omega)]
        rw [List.getElem?_eq_none_iff] at h ⊢
        omega
    · rw [if_neg (by omega), List.getElem?_eq_none_iff]
      omega
  have hhand : ∀ n o, postOb wos [] n = some o → ∃ m p, nuX hs n = some m ∧ st.ob m = some p ∧ axO q st hs Z p o := by
    intro n o h
    obtain ⟨h1, h2, h3⟩ := hpost0 n o h
    obtain ⟨m, p, g1, g2, g3⟩ := hget _ _ h3
    exact ⟨m, p, by unfold nuX; rw [if_neg (by omega)]; exact g1, g2, g3⟩
  have hall : ∀ m, m ∈ hs → ∃ i p o, nuX hs i = some m ∧ i < 16 ∧ st.ob m = some p ∧ axO q st hs Z p o := by
    intro m hm
    obtain ⟨i, hi⟩ := List.getElem?_of_mem hm
    have hlt : i < wos.length := by rw [← hhl]; exact (List.getElem?_eq_some_iff.1 hi).1
    obtain ⟨m', p, g1, g2, g3⟩ := hget i _ (List.getElem?_eq_getElem hlt)
    rw [hi] at g1; cases g1
    exact ⟨8 + i, p, _, by unfold nuX; rw [if_neg (by omega), show 8 + i - 8 = i by omega]; exact hi, by omega, g2, g3⟩
  have hc := hcall w I2 βc χ vs (by
      rintro b (h | ⟨-, n, -, h⟩)
      · exact hC.immLt b h
      · exact (hC.flt n b h).1) (ax2s_sound hC.ob hI2 hV hν hZ _ _ hargs hvs) (fun n hn => by
      have := hpost0n n hn
      simp [βc, χ, this]) (fun n o ho => by
      obtain ⟨m, p, h1, h2, h3⟩ := hhand n o ho
      rw [hχ' n m h1]
      exact axO_RO hC hI2 hV hν hZ h1 h2 h3) (fun n m hnm b hb hb' => by
      obtain ⟨k, h1, h2⟩ := hχ n b hb
      obtain ⟨l, h3, h4⟩ := hχ m b hb'
      exact hC.sep k l (by rintro rfl; exact hnm (hinj n m k h1 h3)) b h2 h4) (fun n b hb => by
      obtain ⟨k, h1, h2⟩ := hχ n b hb
      refine ⟨?_, (hC.flt k b h2).1⟩
      rintro (h | ⟨-, l, h3, h4⟩)
      · exact hC.nimm k b h2 h
      · have hkl : k ≠ l := by
          rintro rfl
          have := hnu n k h1
          simp [this] at h3
        exact hC.sep k l hkl b h2 h4)
  refine hc.mono ?_
  rintro e w' ⟨y, I', β', χ', rfl, hev, hII, hIn, hy, hβ, hpn, hpo, hsep, hχn⟩
  -- what is immutable behind the call
  obtain ⟨Ia, hIa1, hIa2, hIa3, hIa4⟩ : ∃ Ia : Nat → Prop, (∀ b, I b → Ia b) ∧ (∀ b, Ia b → I' b) ∧ (q = false → ∀ b, I' b → Ia b) ∧ (∀ b, Ia b → I b ∨ (w.heap.size ≤ b ∧ b < w'.heap.size)) := by
    cases q with
    | true => exact ⟨I, fun _ h => h, fun b h => hII b (hI2 b h), by simp, fun _ h => .inl h⟩
    | false =>
      refine ⟨I', fun b h => hII b (hI2 b h), fun _ h => h, fun _ _ h => h, fun b h => ?_⟩
      rcases hIn b h with (h | ⟨h, -⟩) | h
      · exact .inl h
      · cases h
      · exact .inr h
  let ρ := rhoX hs nm
  let βn : Beta := fun m => if nm ≤ m ∧ m < nm + fos.length then β' (16 + (m - nm)) else β m
  let φn : Nat → List Nat := fun m => if m ∈ hs then χ' (8 + hs.idxOf m) else if nm ≤ m ∧ m < nm + fos.length then χ' (16 + (m - nm)) else φ m
  have hfresh : ∀ m, nm ≤ m → m < nm + fos.length → st.ob m = none := fun m h1 h2 => by
    have := hnm (m - nm) (by omega)
    rwa [show nm + (m - nm) = m by omega] at this
  have hhs : ∀ m, m ∈ hs → ¬ (nm ≤ m ∧ m < nm + fos.length) := by
    rintro m hm ⟨h1, h2⟩
    obtain ⟨i, p, o, -, -, h3, -⟩ := hall m hm
    rw [hfresh m h1 h2] at h3; cases h3
  have hrange : ∀ m, m ∈ (List.range fos.length).map (nm + ·) ↔ nm ≤ m ∧ m < nm + fos.length := by
    intro m
    simp only [List.mem_map, List.mem_range]
    constructor
    · rintro ⟨k, h1, rfl⟩; omega
    · rintro ⟨h1, h2⟩; exact ⟨m - nm, by omega, by omega⟩
  obtain ⟨za1, za2⟩ := zipO_get hs (wos'.map (rnO ρ)) st.ob hnd1 (by simp [hhl, hwl])
  obtain ⟨zb1, zb2⟩ := zipO_get ((List.range fos.length).map (nm + ·)) (fos.map (rnO ρ)) (updL st.ob (zipO hs (wos'.map (rnO ρ)))) hnd2 (by simp)
  have hobE : ∀ m, updL st.ob (upsX hs nm wos' fos) m = updL (updL st.ob (zipO hs (wos'.map (rnO ρ)))) (zipO ((List.range fos.length).map (nm + ·)) (fos.map (rnO ρ))) m := fun m => by
    unfold upsX; rw [updL_append]
  have hcase : ∀ m, (∃ (i : Nat) (p o : OB), hs[i]? = some m ∧ nuX hs (8 + i) = some m ∧ wos'[i]? = some o ∧ i < 8 ∧ updL st.ob (upsX hs nm wos' fos) m = some (rnO ρ o) ∧ φn m = χ' (8 + i) ∧ st.ob m = some p ∧ (∃ o0, axO q st hs Z p o0) ∧ βn m = β m) ∨
      (∃ (k : Nat) (o : OB), k < fos.length ∧ m = nm + k ∧ fos[k]? = some o ∧ updL st.ob (upsX hs nm wos' fos) m = some (rnO ρ o) ∧ φn m = χ' (16 + k) ∧ βn m = β' (16 + k) ∧ m ∉ hs) ∨
      (m ∉ hs ∧ ¬ (nm ≤ m ∧ m < nm + fos.length) ∧ updL st.ob (upsX hs nm wos' fos) m = st.ob m ∧ φn m = φ m ∧ βn m = β m) := by
    intro m
    by_cases hm : m ∈ hs
    · obtain ⟨i, hi⟩ := List.getElem?_of_mem hm
      obtain ⟨hil, hie⟩ := List.getElem?_eq_some_iff.1 hi
      obtain ⟨j, p, o0, g1, -, g3, g4⟩ := hall m hm
      have hiw : i < wos'.length := by omega
      refine .inl ⟨i, p, wos'[i], hi, by unfold nuX; rw [if_neg (by omega), show 8 + i - 8 = i by omega]; exact hi, List.getElem?_eq_getElem hiw, by omega, ?_, ?_, g3, ⟨o0, g4⟩, ?_⟩
      · rw [hobE, zb2 m (fun h => hhs m hm ((hrange m).1 h))]
        exact za1 i m _ hi (by simp [List.getElem?_map, List.getElem?_eq_getElem hiw])
      · have : hs.idxOf m = i := by rw [← hie]; exact hnd1.idxOf_getElem i hil
        show (if m ∈ hs then χ' (8 + hs.idxOf m) else _) = _
        rw [if_pos hm, this]
      · show (if nm ≤ m ∧ m < nm + fos.length then _ else β m) = _
        rw [if_neg (hhs m hm)]
    · by_cases hr : nm ≤ m ∧ m < nm + fos.length
      · have hk : m - nm < fos.length := by omega
        refine .inr (.inl ⟨m - nm, fos[m - nm], hk, by omega, List.getElem?_eq_getElem hk, ?_, ?_, ?_, hm⟩)
        · rw [hobE]
          exact zb1 (m - nm) m _ (by simp [List.getElem?_map, List.getElem?_range hk]; omega) (by simp [List.getElem?_map, List.getElem?_eq_getElem hk])
        · show (if m ∈ hs then _ else if nm ≤ m ∧ m < nm + fos.length then χ' (16 + (m - nm)) else φ m) = _
          rw [if_neg hm, if_pos hr]
        · show (if nm ≤ m ∧ m < nm + fos.length then β' (16 + (m - nm)) else β m) = _
          rw [if_pos hr]
      · refine .inr (.inr ⟨hm, hr, ?_, ?_, ?_⟩)
        · rw [hobE, zb2 m (fun h => hr ((hrange m).1 h)), za2 m hm]
        · show (if m ∈ hs then _ else if nm ≤ m ∧ m < nm + fos.length then χ' (16 + (m - nm)) else φ m) = _
          rw [if_neg hm, if_neg hr]
        · show (if nm ≤ m ∧ m < nm + fos.length then β' (16 + (m - nm)) else β m) = _
          rw [if_neg hr]
  have hpw : ∀ (i : Nat) o, i < 8 → wos'[i]? = some o → postOb wos' fos (8 + i) = some o := fun i o h1 h2 => by
    unfold postOb; rw [if_pos (by omega), if_neg (by omega), show 8 + i - 8 = i by omega]; exact h2
  have hpf : ∀ (k : Nat) o, fos[k]? = some o → postOb wos' fos (16 + k) = some o := fun k o h2 => by
    unfold postOb; rw [if_neg (by omega), show 16 + k - 16 = k by omega]; exact h2
  have hρβ : ∀ n bl, β' n = some bl → βn (ρ n) = some bl := by
    intro n bl hb
    by_cases h16 : n < 16
    · cases hp : postOb wos' fos n with
      | none => rw [(hpn n hp).1] at hb; cases hb
      | some o =>
        have hp2 := hp
        unfold postOb at hp2
        rw [if_pos h16] at hp2
        split at hp2
        · cases hp2
        · rename_i h8
          have hil : n - 8 < hs.length := by have := (List.getElem?_eq_some_iff.1 hp2).1; omega
          have hρn : ρ n = hs[n - 8] := by
            show rhoX hs nm n = _
            unfold rhoX; rw [if_pos h16, List.getD_eq_getElem?_getD, List.getElem?_eq_getElem hil]; rfl
          have hm : hs[n - 8] ∈ hs := List.getElem_mem hil
          have hnn : nuX hs n = some hs[n - 8] := by unfold nuX; rw [if_neg h8, List.getElem?_eq_getElem hil]
          have hβm : βn hs[n - 8] = β hs[n - 8] := by
            show (if nm ≤ hs[n - 8] ∧ hs[n - 8] < nm + fos.length then _ else β hs[n - 8]) = _
            rw [if_neg (hhs _ hm)]
          obtain ⟨j, p, o0, g1, -, g3, g4⟩ := hall _ hm
          have hbl : ∃ bl0, β hs[n - 8] = some bl0 := by
            have := hC.ob _ _ g3
            cases p with
            | cells cs => obtain ⟨bl0, h, -⟩ := this; exact ⟨bl0, h⟩
            | own _ _ => obtain ⟨bl0, h, -⟩ := this; exact ⟨bl0, h⟩
            | win _ _ => obtain ⟨bl0, h, -⟩ := this; exact ⟨bl0, h⟩
            | flat _ _ => obtain ⟨bl0, h, -⟩ := this; exact ⟨bl0, h⟩
            | _ => cases o0 <;> exact g4.elim
          obtain ⟨bl0, hbl⟩ := hbl
          have := hβ n bl0 (hν n _ hnn bl0 hbl)
          rw [hb] at this; cases this
          rw [hρn, hβm]; exact hbl
    · have : ρ n = nm + (n - 16) := by show rhoX hs nm n = _; unfold rhoX; rw [if_neg h16]
      rw [this]
      cases hp : postOb wos' fos n with
      | none => rw [(hpn n hp).1] at hb; cases hb
      | some o =>
        unfold postOb at hp
        rw [if_neg h16] at hp
        have := (List.getElem?_eq_some_iff.1 hp).1
        show (if nm ≤ nm + (n - 16) ∧ nm + (n - 16) < nm + fos.length then β' (16 + (nm + (n - 16) - nm)) else _) = _
        rw [if_pos (by omega), show 16 + (nm + (n - 16) - nm) = n by omega]; exact hb
  have hxkw : ∀ (i : Nat) o, wos'[i]? = some o → o.xk = true ∧ rkO q o = true := fun i o h => by
    have hm : o ∈ wos' ++ fos := List.mem_append.2 (.inl (List.mem_of_getElem? h))
    exact ⟨List.all_eq_true.1 hxk o hm, List.all_eq_true.1 hro o hm⟩
  have hxkf : ∀ (i : Nat) o, fos[i]? = some o → o.xk = true ∧ rkO q o = true := fun i o h => by
    have hm : o ∈ wos' ++ fos := List.mem_append.2 (.inr (List.mem_of_getElem? h))
    exact ⟨List.all_eq_true.1 hxk o hm, List.all_eq_true.1 hro o hm⟩
  have hnoflat : ∀ o : OB, o.xk = true → ∀ sz xs, rnO ρ o ≠ .flat sz xs := by
    intro o h sz xs e
    cases o with
    | cells _ => cases e
    | own _ _ => cases e
    | dead => cases e
    | _ => cases h
  have hev' : Evo (fun b => ∃ n, n ∈ hs ∧ b ∈ φ n) w w' := hev.mono fun b _ ⟨n, hb⟩ => by
    obtain ⟨m, h1, h2⟩ := hχ n b hb
    exact ⟨m, hnu n m h1, h2⟩
  have hor : ∀ n b, b ∈ χ' n → b < w'.heap.size ∧ (C.X b ∨ C.Y b ∨ C.w0.heap.size ≤ b) ∧ ¬ C.Y b ∧ ¬ Ia b := by
    intro n b hb
    obtain ⟨h1, h2, h3⟩ := hχn n b hb
    refine ⟨h2, ?_, ?_, fun h => h1 (hIa2 b h)⟩
    · rcases h3 with ⟨m, hm⟩ | h3
      · obtain ⟨k, -, g2⟩ := hχ m b hm; exact (hC.flt k b g2).2
      · exact .inr (.inr (Nat.le_trans hC.evo.size h3))
    · rcases h3 with ⟨m, hm⟩ | h3
      · obtain ⟨k, g1, g2⟩ := hχ m b hm
        obtain ⟨i, p, o, -, -, g4, g5⟩ := hall k (hnu m k g1)
        exact axO_noY hC g4 g5 b g2
      · intro hy
        have := hC.ylt b hy
        have := hC.evo.size
        omega
  refine ⟨y, Ia, βn, φn, rfl, rnT_sound (q := q) (fun hq b hb => hIa3 hq b hb) hρβ r y hr hy, ?_⟩
  refine hC.move (fun b => ∃ n, n ∈ hs ∧ b ∈ φ n) hev' ?_ hIa1 (fun b h => (hIa4 b h).imp id .inl) ?_ ?_ ?_ ?_ ?_ ?_ ?_ ?_ ?_
  · rintro b ⟨n, h1, h2⟩
    obtain ⟨i, p, o, -, -, g4, g5⟩ := hall n h1
    exact ⟨n, h2, axO_noY hC g4 g5 b h2⟩
  · intro n bl hb
    rcases hcase n with ⟨i, p, o, -, -, -, -, -, -, -, -, h⟩ | ⟨k, o, h1, h2, -, -, -, -, -⟩ | ⟨-, -, -, -, h⟩
    · rw [h]; exact hb
    · rw [hC.dom n (hfresh n (by omega) (by omega))] at hb; cases hb
    · rw [h]; exact hb
  · intro n o ho
    rcases hcase n with ⟨i, p, o', h1, h2, h3, h4, h5, h6, -, -, -⟩ | ⟨k, o', h1, h2, h3, h5, h6, -, -⟩ | ⟨h1, -, h2, h3, -⟩
    · rw [h5] at ho; cases ho
      rw [h6]
      have h7 := rnO_sound (q := q) (fun hq b hb => hIa3 hq b hb) hρβ (n := 8 + i) o' (χ' (8 + i)) (hxkw i o' h3).1 (hxkw i o' h3).2 (hpo _ _ (hpw i o' h4 h3))
      have h8 : ρ (8 + i) = n := by
        show rhoX hs nm (8 + i) = _
        unfold rhoX; rw [if_pos (by omega), show 8 + i - 8 = i by omega, List.getD_eq_getElem?_getD, h1]; rfl
      rw [h8] at h7
      exact .inr h7
    · rw [h5] at ho; cases ho
      rw [h6]
      have h7 := rnO_sound (q := q) (fun hq b hb => hIa3 hq b hb) hρβ (n := 16 + k) o' (χ' (16 + k)) (hxkf k o' h3).1 (hxkf k o' h3).2 (hpo _ _ (hpf k o' h3))
      have h8 : ρ (16 + k) = n := by
        show rhoX hs nm (16 + k) = _
        unfold rhoX; rw [if_neg (by omega), h2]; omega
      rw [h8] at h7
      exact .inr h7
    · rw [h2] at ho
      refine .inl ⟨ho, h3, ?_⟩
      rintro b hb ⟨m, hm, hb'⟩
      exact hC.sep n m (by rintro rfl; exact h1 hm) b hb hb'
  · intro n hn
    rcases hcase n with ⟨i, p, o', h1, h2, h3, h4, h5, h6, -, -, -⟩ | ⟨k, o', h1, h2, h3, h5, h6, -, -⟩ | ⟨h1, -, h2, h3, h4⟩
    · rw [h5] at hn; cases hn
    · rw [h5] at hn; cases hn
    · rw [h4]; rw [h2] at hn; exact hC.dom n hn
  · intro n hn
    rcases hcase n with ⟨i, p, o', h1, h2, h3, h4, h5, h6, -, -, -⟩ | ⟨k, o', h1, h2, h3, h5, h6, -, -⟩ | ⟨h1, -, h2, h3, h4⟩
    · rw [h5] at hn; cases hn
    · rw [h5] at hn; cases hn
    · rw [h3]; rw [h2] at hn; exact hC.fdom n hn
  · -- apart
    have hout : ∀ (j n : Nat) b, n ∉ hs → b ∈ χ' j → b ∈ φ n → False := by
      intro j n b h1 h2 h3
      rcases (hχn j b h2).2.2 with ⟨m, hm⟩ | h4
      · obtain ⟨k, g1, g2⟩ := hχ m b hm
        exact hC.sep n k (by rintro rfl; exact h1 (hnu m _ g1)) b h3 g2
      · have := (hC.flt n b h3).1; omega
    have hkey : ∀ n, (∃ j, φn n = χ' j ∧ ρ j = n) ∨ (n ∉ hs ∧ φn n = φ n) := by
      intro n
      rcases hcase n with ⟨i, p, o', h1, h2, h3, h4, h5, h6, -, -, -⟩ | ⟨k, o', h1, h2, h3, h5, h6, -, -⟩ | ⟨h1, -, h2, h3, -⟩
      · refine .inl ⟨8 + i, h6, ?_⟩
        show rhoX hs nm (8 + i) = _
        unfold rhoX; rw [if_pos (by omega), show 8 + i - 8 = i by omega, List.getD_eq_getElem?_getD, h1]; rfl
      · refine .inl ⟨16 + k, h6, ?_⟩
        show rhoX hs nm (16 + k) = _
        unfold rhoX; rw [if_neg (by omega), h2]; omega
      · exact .inr ⟨h1, h3⟩
    intro n m hnm b hb hb'
    rcases hkey n with ⟨i, h1, h2⟩ | ⟨h1, h2⟩
    · rcases hkey m with ⟨j, h3, h4⟩ | ⟨h3, h4⟩
      · rw [h1] at hb; rw [h3] at hb'
        exact hsep i j (by rintro rfl; exact hnm (h2.symm.trans h4)) b hb hb'
      · rw [h1] at hb; rw [h4] at hb'
        exact hout i m b h3 hb hb'
    · rcases hkey m with ⟨j, h3, h4⟩ | ⟨h3, h4⟩
      · rw [h2] at hb; rw [h3] at hb'
        exact hout j n b h1 hb' hb
      · rw [h2] at hb; rw [h4] at hb'
        exact hC.sep n m hnm b hb hb'
  · intro n b hb hi
    rcases hcase n with ⟨i, p, o', h1, h2, h3, h4, h5, h6, -, -, -⟩ | ⟨k, o', h1, h2, h3, h5, h6, -, -⟩ | ⟨h1, -, h2, h3, -⟩
    · rw [h6] at hb; exact (hor _ b hb).2.2.2 hi
    · rw [h6] at hb; exact (hor _ b hb).2.2.2 hi
    · rw [h3] at hb
      rcases hIa4 b hi with h | h
      · exact hC.nimm n b hb h
      · have := (hC.flt n b hb).1; omega
  · intro n b hb
    rcases hcase n with ⟨i, p, o', h1, h2, h3, h4, h5, h6, -, -, -⟩ | ⟨k, o', h1, h2, h3, h5, h6, -, -⟩ | ⟨h1, -, h2, h3, -⟩
    · rw [h6] at hb; exact ⟨(hor _ b hb).1, (hor _ b hb).2.1⟩
    · rw [h6] at hb; exact ⟨(hor _ b hb).1, (hor _ b hb).2.1⟩
    · rw [h3] at hb
      exact ⟨Nat.lt_of_lt_of_le (hC.flt n b hb).1 hev.size, (hC.flt n b hb).2⟩
  · intro n o ho hwr b hb
    rcases hcase n with ⟨i, p, o', h1, h2, h3, h4, h5, h6, -, -, -⟩ | ⟨k, o', h1, h2, h3, h5, h6, -, -⟩ | ⟨h1, -, h2, h3, -⟩
    · rw [h6] at hb; exact (hor _ b hb).2.2.1
    · rw [h6] at hb; exact (hor _ b hb).2.2.1
    · rw [h2] at ho; rw [h3] at hb
      exact hC.wok n o ho hwr b hb
  · intro n sz xs ho b hb
    rcases hcase n with ⟨i, p, o', h1, h2, h3, h4, h5, h6, -, -, -⟩ | ⟨k, o', h1, h2, h3, h5, h6, -, -⟩ | ⟨h1, -, h2, h3, -⟩
    · rw [h5] at ho
      exact (hnoflat o' (hxkw i o' h3).1 sz xs (Option.some.inj ho)).elim
    · rw [h5] at ho
      exact (hnoflat o' (hxkf k o' h3).1 sz xs (Option.some.inj ho)).elim
    · rw [h2] at ho; rw [h3] at hb
      exact hC.fnew n sz xs ho b hb
end
end Go.Proofs.Ytpaccfeiaekacaa.Vs

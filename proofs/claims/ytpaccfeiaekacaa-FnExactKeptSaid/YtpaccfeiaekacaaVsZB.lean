import Derived.Test.YtpaccfeiaekacaaVsZA
namespace Go.Proofs.Ytpaccfeiaekacaa.Vs
set_option linter.unusedVariables false
set_option linter.unusedSimpArgs false
set_option linter.unusedSectionVars false
set_option linter.unnecessarySimpa false
set_option linter.all false
open Go.RowKit
variable {P : Program}
/-! ### Helps for the walk by simp -/
@[congr] theorem CK_congr {st : St} {f : FuncId} {l l' : List AV} {K : AV → Ups → Prop} (h : l = l') : CK P st f l K = CK P st f l' K := by rw [h]
@[congr] theorem AW_congr {nt : Nat} {fs : List Nat} {c : Code} {Q : AExit → St → Prop} {st st' : St} (h : st = st') : AW P nt fs c Q st = AW P nt fs c Q st' := by rw [h]
@[congr] theorem aK_congr {st st' : St} {o : Oper} {K : AV → Ups → Prop} (h : st = st') : aK P st o K = aK P st' o K := by rw [h]
@[congr] theorem areg_congr {ops : Array Oper} {l : List Oper} {st st' : St} {K : St → Prop} (h : st = st') : areg P ops l st K = areg P ops l st' K := by rw [h]
@[congr] theorem aregQ_congr {ops : Array Oper} {l : List Oper} {st st' : St} {K : St → Prop} (h : st = st') : aregQ P ops l st K = aregQ P ops l st' K := by rw [h]
theorem aK_mono {st : St} {o : Oper} {K K' : AV → Ups → Prop} (h : aK P st o K) (hk : ∀ v u, K v u → K' v u) : aK P st o K' := by
  obtain ⟨dst, op, ty, pos, aft, gd⟩ := o
  unfold aK at h ⊢
  cases op with
  | call c =>
    simp only at h ⊢
    cases hc : c.callee with
    | builtin b =>
      rw [hc] at h
      simp only at h ⊢
      generalize aBuiltin P st _ b _ _ = r at h ⊢
      cases r with
      | none => exact h
      | some t => obtain ⟨p, v, u⟩ := t; exact ⟨h.1, hk _ _ h.2⟩
    | invoke _ _ => rw [hc] at h; exact h.elim
    | value f =>
      rw [hc] at h
      simp only at h ⊢
      split at h
      · obtain ⟨v, u, h1, h2⟩ := h
        exact ⟨v, u, h1, hk _ _ h2⟩
      · exact h.elim
  | _ =>
    simp only at h ⊢
    generalize aop P st _ _ = r at h ⊢
    cases r with
    | none => exact h
    | some t => obtain ⟨p, v, u⟩ := t; exact ⟨h.1, hk _ _ h.2⟩
theorem am2s_nil {st : St} {ν : Nat → Option Nat} : am2s st ν [] [] := rfl
theorem am2s_cons {st : St} {ν : Nat → Option Nat} {a b : AV} {l m : List AV} (h : am2 st ν a b) (t : am2s st ν l m) : am2s st ν (a :: l) (b :: m) := ⟨h, t⟩
theorem am2_g {st : St} {ν : Nat → Option Nat} {v : Value} : am2 st ν (.g v) (.g v) := by
  show am0 st ν _ _
  unfold am0
  split <;> simp_all
theorem am2_s {st : St} {ν : Nat → Option Nat} {v : List UInt8} : am2 st ν (.s v) (.s v) := rfl
theorem am2_sl {st : St} {ν : Nat → Option Nat} {sz : Nat} {xs : List (List AV)} : am2 st ν (.sl sz xs) (.sl sz xs) := ⟨rfl, rfl⟩
theorem am2_ip {st : St} {ν : Nat → Option Nat} {cs : List AV} : am2 st ν (.ip cs) (.ip cs) := rfl
theorem am2_nilsl {st : St} {ν : Nat → Option Nat} {sz : Nat} {xs : List (List AV)} (h : xs = []) : am2 st ν (.g (.slice none 0 0)) (.sl sz xs) := h
theorem am2_arr {st : St} {ν : Nat → Option Nat} {n off len sz : Nat} {ys xs : List (List AV)} (h : st.ob n = some (.flat sz ys) ∨ st.ob n = some (.shared sz ys)) (hl : off + len ≤ ys.length) (hx : xs = (ys.drop off).take len) : am2 st ν (.arr n off len) (.sl sz xs) := ⟨ys, h, hl, hx⟩
/-- Cells that reach no row of the frame's own. -/
def plain1 : AV → Bool
  | .g _ => true
  | .s _ => true
  | .sl .. => true
  | .ip _ => true
  | _ => false
theorem am1_plain {st : St} {ν : Nat → Option Nat} : ∀ (c : AV), plain1 c = true → am1 st ν c c
  | .g _, _ => am2_g
  | .s _, _ => rfl
  | .sl .., _ => ⟨rfl, rfl⟩
  | .ip _, _ => rfl
  | .agg .., h | .ot .., h | .arr .., h | .ptr .., h | .eptr .., h | .fn .., h | .tup .., h | .undef, h => by simp [plain1] at h
theorem am1s_plain {st : St} {ν : Nat → Option Nat} : ∀ (cs : List AV), cs.all plain1 = true → am1s st ν cs cs
  | [], _ => rfl
  | c :: cs, h => by
    simp only [List.all_cons, Bool.and_eq_true] at h
    exact ⟨am1_plain c h.1, am1s_plain cs h.2⟩
theorem am2_agg {st : St} {ν : Nat → Option Nat} {cs : List AV} (h : cs.all plain1 = true) : am2 st ν (.agg cs) (.agg cs) := am1s_plain cs h
/-- A call of a function that is handed no object. -/
theorem CK_w {st : St} {f : FuncId} {l l' : List AV} {r : AV} {K : AV → Ups → Prop} (ha : am2s st (nuOf [] []) l l') (hp : PCall P f l' r) (hk : K r (if scal r then [] else frzU st (arrN2 l))) : CK P st f l K := by
  refine ⟨r, _, ⟨[], [], l', [], [], [], hp, rfl, rfl, rfl, by simp, by simp, ha, rfl, rfl, rfl⟩, ?_⟩
  simpa [zipW, cellN] using hk
theorem CK_p {st : St} {f : FuncId} {l l' : List AV} {r : AV} {K : AV → Ups → Prop} (ha : am2s st (nuOf [] []) l l') (hp : PCall P f l' r) (hs : scal r = true) (hk : K r []) : CK P st f l K :=
  CK_w ha hp (by rw [hs]; exact hk)
theorem CK_v {st : St} {f : FuncId} {l l' : List AV} {r : AV} {K : AV → Ups → Prop} (ha : am2s st (nuOf [] []) l l') (hp : PCall P f l' r) (hs : arrN2 l = []) (hk : K r []) : CK P st f l K :=
  CK_w ha hp (by rw [hs]; cases scal r <;> exact hk)
def plain2 : AV → Bool
  | .agg cs => cs.all plain1
  | a => plain1 a
theorem am2_plain {st : St} {ν : Nat → Option Nat} : ∀ (c : AV), plain2 c = true → am2 st ν c c
  | .agg cs, h => am1s_plain cs h
  | .g _, _ => am2_g
  | .s _, _ => rfl
  | .sl .., _ => ⟨rfl, rfl⟩
  | .ip _, _ => rfl
  | .ot .., h | .arr .., h | .ptr .., h | .eptr .., h | .fn .., h | .tup .., h | .undef, h => by simp [plain2, plain1] at h
/-- The slots that are kept hold what they held; the objects likewise. -/
def KpE (st : St) : List (Nat × AV) → Prop
  | [] => True
  | (t, v) :: r => st.env t = v ∧ KpE st r
theorem KpE_get {st : St} : ∀ {e : List (Nat × AV)}, KpE st e → ∀ n v, lk e n = some v → st.env n = v
  | (k, u) :: r, h, n, v, hl => by
    unfold lk at hl
    cases hk : n == k with
    | true => rw [hk] at hl; simp at hl hk; subst hl; subst hk; exact h.1
    | false => rw [hk] at hl; exact KpE_get h.2 n v hl
section
variable {nt : Nat} {fs : List Nat} {Q : AExit → St → Prop} {st : St}
/-- Slots may be forgotten. -/
theorem AW_kp {c : Code} (e : List (Nat × AV)) (he : KpE st e) (h : AW P nt fs c Q { env := fun n => (lk e n).getD .undef, ob := st.ob }) : AW P nt fs c Q st := by
  intro C a w hn hf hC
  obtain ⟨I, β, φ, hC⟩ := hC
  refine h C a w hn hf ⟨I, β, φ, { hC with env := fun t => ?_, ob := hC.ob, dom := hC.dom, fdom := hC.fdom, wok := hC.wok, fnew := hC.fnew, dfr := hC.dfr }⟩
  show Rv w I β ((lk e t).getD .undef) _
  cases hl : lk e t with
  | none => exact trivial
  | some v => rw [← KpE_get he t v hl]; exact hC.env t
theorem AW_region' {id : Nat} {l : List Oper} {y : Code} (hd : dstOk nt l.toArray = true) (h : areg P l.toArray l st fun s => AW P nt fs y Q s) : AW P nt fs (.seq (.region id l.toArray false) y) Q st :=
  AW_seq (AW_region hd h)
theorem AW_quiet' {id : Nat} {l : List Oper} {y : Code} (hm : P.follows .mixedOrders = true) (ho : ordOk l = true) (hd : dstOk nt l.toArray = true) (h : aregQ P l.toArray l st fun s => AW P nt fs y Q s) : AW P nt fs (.seq (.region id l.toArray true) y) Q st :=
  AW_seq (AW_quiet hm ho hd h)
/-- The end: one result, that names no row of the frame's own. -/
theorem end_1 {rs : List ResultVar} {r : AV} {t : Nat} (hrs : rs = [.tmp t]) (hp : plain2 r = true) (hv : st.env t = r) : endQ P rs r [] st := by
  subst hrs
  refine ⟨True ∧ True, [st.env t], rfl, ⟨trivial, trivial⟩, ?_, trivial⟩
  rw [hv]
  show amR st r r
  exact am2_plain r hp
theorem AW_ret1 {rs : List ResultVar} {r : AV} {t : Nat} (hrs : rs = [.tmp t]) (hp : plain2 r = true) (hv : st.env t = r) : AW P nt fs .ret (retQ P rs r []) st :=
  AW_ret (end_1 hrs hp hv)
/-- The end: one result. -/
theorem end_m {rs : List ResultVar} {r v : AV} {t : Nat} (hrs : rs = [.tmp t]) (hv : st.env t = v) (hm : am2 st (fun _ => none) v r) : endQ P rs r [] st := by
  subst hrs
  refine ⟨True ∧ True, [st.env t], rfl, ⟨trivial, trivial⟩, ?_, trivial⟩
  rw [hv]
  cases r <;> exact hm
theorem AW_retm {rs : List ResultVar} {r v : AV} {t : Nat} (hrs : rs = [.tmp t]) (hv : st.env t = v) (hm : am2 st (fun _ => none) v r) : AW P nt fs .ret (retQ P rs r []) st :=
  AW_ret (end_m hrs hv hm)
end
end Go.Proofs.Ytpaccfeiaekacaa.Vs

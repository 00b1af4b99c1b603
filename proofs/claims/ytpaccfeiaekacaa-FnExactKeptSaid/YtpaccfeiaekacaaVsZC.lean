import Derived.Test.YtpaccfeiaekacaaVsZB
namespace Go.Proofs.Ytpaccfeiaekacaa.Vs
set_option linter.unusedVariables false
set_option linter.unusedSimpArgs false
set_option linter.unusedSectionVars false
set_option linter.unnecessarySimpa false
set_option linter.all false
open Go.RowKit
variable {P : Program}
/-! ### The same region, written short: what simp walks -/
/-- An operation: its slot, what it does, the slot and the sense of its guard. -/
structure CO where
  dst : Option Nat
  op : Op
  gd : Option (Nat × Bool)
def coOf (ops : Array Oper) (o : Oper) : Option CO :=
  match o.guard with
  | none => some ⟨o.dst, o.op, none⟩
  | some (j, want) => match (ops[j]?).bind (·.dst) with
    | some d => some ⟨o.dst, o.op, some (d, want)⟩
    | none => none
def cosOf (ops : Array Oper) : List Oper → Option (List CO)
  | [] => some []
  | o :: r => match coOf ops o, cosOf ops r with
    | some c, some cs => some (c :: cs)
    | _, _ => none
def nmC (dst : Option Nat) : Nat := match dst with
  | some d => 16 * (d + 1)
  | none => 15
def putC (st : St) (dst : Option Nat) (v : AV) (u : Ups) : St := { env := match dst with | some d => upd st.env d v | none => st.env, ob := updL st.ob u }
def spl (b want : Bool) (A B : Prop) : Prop := (b = want → A) ∧ (b = (!want) → B)
theorem spl_tt (A B : Prop) : spl true true A B = A := by simp [spl]
theorem spl_tf (A B : Prop) : spl true false A B = B := by simp [spl]
theorem spl_ft (A B : Prop) : spl false true A B = B := by simp [spl]
theorem spl_ff (A B : Prop) : spl false false A B = A := by simp [spl]
theorem spl_ct (b : Bool) (A B : Prop) : spl b true A B = ((b = true → A) ∧ (b = false → B)) := (rfl)
theorem spl_cf (b : Bool) (A B : Prop) : spl b false A B = ((b = false → A) ∧ (b = true → B)) := (rfl)
/-- q: must the region turn no object? -/
def creg (P : Program) (q : Bool) : List CO → St → (St → Prop) → Prop
  | [], st, K => K st
  | c :: rest, st, K =>
    let R : St → ARes → Prop := fun st r => match r with
      | some (p, v, u) => p ∧ (q = true → u = []) ∧ creg P q rest (putC st c.dst v u) K
      | none => False
    let O : St → Prop := fun st => match c.op with
      | .call cl => match cl.callee with
        | .builtin b => R st (aBuiltin P st (nmC c.dst) b cl.argTypes.toList (cl.args.toList.map (ev st)))
        | .value f => match ev st f with
          | .fn fid fst cap => ∃ v u, GStep P st fid (fst ++ cl.args.toList.map (ev st) ++ cap) v u ∧ (q = true → u = []) ∧ creg P q rest (putC st c.dst v u) K
          | _ => False
        | .invoke _ _ => False
      | op => R st (aop P st (nmC c.dst) op)
    match c.gd with
    | none => O st
    | some (d, want) => match st.env d with
      | .g (.bool b) => spl b want (O { st with env := upd st.env d (.g (.bool want)) }) (creg P q rest (putC { st with env := upd st.env d (.g (.bool (!want))) } c.dst (.g undef) []) K)
      | .g (.tuple vs) => vs.size = 0 ∧ creg P q rest (putC st c.dst (.g undef) []) K
      | _ => False
def cR (P : Program) (q : Bool) (rest : List CO) (K : St → Prop) (st : St) (dst : Option Nat) (r : ARes) : Prop := match r with
  | some (p, v, u) => p ∧ (q = true → u = []) ∧ creg P q rest (putC st dst v u) K
  | none => False
/-- A call. -/
def CKd (P : Program) (q : Bool) (rest : List CO) (K : St → Prop) (st : St) (dst : Option Nat) (f : FuncId) (actual : List AV) : Prop :=
  ∃ v u, GStep P st f actual v u ∧ (q = true → u = []) ∧ creg P q rest (putC st dst v u) K
def cO (P : Program) (q : Bool) (rest : List CO) (K : St → Prop) (st : St) (dst : Option Nat) (op : Op) : Prop := match op with
  | .call cl => match cl.callee with
    | .builtin b => cR P q rest K st dst (aBuiltin P st (nmC dst) b cl.argTypes.toList (cl.args.toList.map (ev st)))
    | .value f => match ev st f with
      | .fn fid fst cap => CKd P q rest K st dst fid (fst ++ cl.args.toList.map (ev st) ++ cap)
      | _ => False
    | .invoke _ _ => False
  | op => cR P q rest K st dst (aop P st (nmC dst) op)
def cG (P : Program) (q : Bool) (rest : List CO) (K : St → Prop) (st : St) (dst : Option Nat) (op : Op) (d : Nat) (want : Bool) (x : AV) : Prop := match x with
  | .g (.bool b) => spl b want (cO P q rest K { st with env := upd st.env d (.g (.bool want)) } dst op) (creg P q rest (putC { st with env := upd st.env d (.g (.bool (!want))) } dst (.g undef) []) K)
  | .g (.tuple vs) => vs.size = 0 ∧ creg P q rest (putC st dst (.g undef) []) K
  | _ => False
theorem creg_nil (q : Bool) (st : St) (K : St → Prop) : creg P q [] st K = K st := (rfl)
theorem creg_op (q : Bool) (dst : Option Nat) (op : Op) (rest : List CO) (st : St) (K : St → Prop) : creg P q (⟨dst, op, none⟩ :: rest) st K = cO P q rest K st dst op := (rfl)
theorem creg_gd (q : Bool) (dst : Option Nat) (op : Op) (d : Nat) (want : Bool) (rest : List CO) (st : St) (K : St → Prop) : creg P q (⟨dst, op, some (d, want)⟩ :: rest) st K = cG P q rest K st dst op d want (st.env d) := (rfl)
theorem cG_bool (q : Bool) (rest : List CO) (K : St → Prop) (st : St) (dst : Option Nat) (op : Op) (d : Nat) (want b : Bool) : cG P q rest K st dst op d want (.g (.bool b)) = spl b want (cO P q rest K { st with env := upd st.env d (.g (.bool want)) } dst op) (creg P q rest (putC { st with env := upd st.env d (.g (.bool (!want))) } dst (.g undef) []) K) := (rfl)
theorem cG_undef (q : Bool) (rest : List CO) (K : St → Prop) (st : St) (dst : Option Nat) (op : Op) (d : Nat) (want : Bool) : cG P q rest K st dst op d want (.g undef) = creg P q rest (putC st dst (.g undef) []) K := by
  show ((#[] : Array Value).size = 0 ∧ _) = _
  simp
theorem putC_eq (st : St) (o : Oper) (v : AV) (u : Ups) : putC st o.dst v u = st.put o v u := rfl
theorem cO_aK {q : Bool} {rest : List CO} {K : St → Prop} {st : St} {o : Oper} (h : cO P q rest K st o.dst o.op) : aK P st o fun v u => (q = true → u = []) ∧ creg P q rest (st.put o v u) K := by
  obtain ⟨dst, op, ty, pos, aft, gd⟩ := o
  simp only at h ⊢
  have fin : ∀ r : ARes, cR P q rest K st dst r → (match r with | some (p, v, u) => p ∧ ((q = true → u = []) ∧ creg P q rest (putC st dst v u) K) | none => False) := by
    intro r h
    match r, h with
    | some (p, v, u), h => exact h
  unfold cO at h
  unfold aK
  cases op with
  | call c =>
    simp only at h ⊢
    cases hc : c.callee with
    | builtin b => rw [hc] at h; exact fin _ h
    | invoke _ _ => rw [hc] at h; exact h.elim
    | value f =>
      rw [hc] at h
      simp only at h ⊢
      split at h
      · rename_i fid fst cap he
        rw [he]
        exact h
      · exact h.elim
  | _ => simp only at h ⊢; exact fin _ h
theorem creg_areg {ops : Array Oper} {K : St → Prop} : ∀ (l : List Oper) (cs : List CO) (st : St), cosOf ops l = some cs → creg P false cs st K → areg P ops l st K
  | [], cs, st, hc, h => by cases hc; exact h
  | o :: rest, cs, st, hc, h => by
    unfold cosOf at hc
    split at hc
    · rename_i c cs' h1 h2
      cases hc
      unfold coOf at h1
      unfold areg
      have mono : ∀ (st : St), cO P false cs' K st o.dst o.op → aK P st o fun v u => areg P ops rest (st.put o v u) K := fun st h => aK_mono (cO_aK h) fun v u hk => creg_areg rest cs' _ h2 hk.2
      split at h1
      · rename_i hg
        cases h1
        rw [creg_op] at h
        rw [hg]
        exact mono st h
      · rename_i j want hg
        split at h1
        · rename_i d hj
          cases h1
          rw [creg_gd] at h
          rw [hg]
          simp only
          rw [hj]
          simp only
          unfold cG at h
          split at h
          · rename_i b hb
            rw [hb]
            refine ⟨fun hbw => mono _ (h.1 hbw), fun hbw => ?_⟩
            exact creg_areg rest cs' _ h2 (h.2 hbw)
          · rename_i vs hb
            rw [hb]
            exact ⟨h.1, creg_areg rest cs' _ h2 h.2⟩
          · exact h.elim
        · cases h1
    · cases hc
theorem creg_aregQ {ops : Array Oper} {K : St → Prop} : ∀ (l : List Oper) (cs : List CO) (st : St), cosOf ops l = some cs → creg P true cs st K → aregQ P ops l st K
  | [], cs, st, hc, h => by cases hc; exact h
  | o :: rest, cs, st, hc, h => by
    unfold cosOf at hc
    split at hc
    · rename_i c cs' h1 h2
      cases hc
      unfold coOf at h1
      unfold aregQ
      have mono : ∀ (st : St), cO P true cs' K st o.dst o.op → aK P st o fun v u => u = [] ∧ aregQ P ops rest (st.put o v []) K := fun st h => aK_mono (cO_aK h) fun v u hk => by
        have hu := hk.1 rfl
        subst hu
        exact ⟨rfl, creg_aregQ rest cs' _ h2 hk.2⟩
      split at h1
      · rename_i hg
        cases h1
        rw [creg_op] at h
        rw [hg]
        exact mono st h
      · rename_i j want hg
        split at h1
        · rename_i d hj
          cases h1
          rw [creg_gd] at h
          rw [hg]
          simp only
          rw [hj]
          simp only
          unfold cG at h
          split at h
          · rename_i b hb
            rw [hb]
            refine ⟨fun hbw => mono _ (h.1 hbw), fun hbw => ?_⟩
            exact creg_aregQ rest cs' _ h2 (h.2 hbw)
          · rename_i vs hb
            rw [hb]
            exact ⟨h.1, creg_aregQ rest cs' _ h2 h.2⟩
          · exact h.elim
        · cases h1
    · cases hc
section
variable {nt : Nat} {fs : List Nat} {Q : AExit → St → Prop} {st : St}
theorem AW_r {id : Nat} {l : List Oper} {cs : List CO} {y : Code} (hc : cosOf l.toArray l = some cs) (hd : dstOk nt l.toArray = true) (h : ∀ K : St → Prop, (∀ s, AW P nt fs y Q s → K s) → creg P false cs st K) : AW P nt fs (.seq (.region id l.toArray false) y) Q st :=
  AW_region' hd (creg_areg l cs st hc (h _ fun _ h => h))
theorem AW_q {id : Nat} {l : List Oper} {cs : List CO} {y : Code} (hc : cosOf l.toArray l = some cs) (hm : P.follows .mixedOrders = true) (ho : ordOk l = true) (hd : dstOk nt l.toArray = true) (h : ∀ K : St → Prop, (∀ s, AW P nt fs y Q s → K s) → creg P true cs st K) : AW P nt fs (.seq (.region id l.toArray true) y) Q st :=
  AW_quiet' hm ho hd (creg_aregQ l cs st hc (h _ fun _ h => h))
/-- A region that stands last. -/
theorem AW_re {id : Nat} {l : List Oper} {cs : List CO} (hc : cosOf l.toArray l = some cs) (hd : dstOk nt l.toArray = true) (h : ∀ K : St → Prop, (∀ s, Q .normal s → K s) → creg P false cs st K) : AW P nt fs (.region id l.toArray false) Q st :=
  AW_region hd (creg_areg l cs st hc (h _ fun _ h => h))
theorem AW_qe {id : Nat} {l : List Oper} {cs : List CO} (hc : cosOf l.toArray l = some cs) (hm : P.follows .mixedOrders = true) (ho : ordOk l = true) (hd : dstOk nt l.toArray = true) (h : ∀ K : St → Prop, (∀ s, Q .normal s → K s) → creg P true cs st K) : AW P nt fs (.region id l.toArray true) Q st :=
  AW_quiet hm ho hd (creg_aregQ l cs st hc (h _ fun _ h => h))
end
section
variable {q : Bool} {rest : List CO} {K : St → Prop} {st : St} {dst : Option Nat} {f : FuncId} {l l' : List AV} {r : AV}
theorem CKd_w (ha : am2s st (nuOf [] []) l l') (hp : PCall P f l' r) (hq : q = true → (if scal r then [] else frzU st (arrN2 l)) = []) (hk : creg P q rest (putC st dst r (if scal r then [] else frzU st (arrN2 l))) K) : CKd P q rest K st dst f l := by
  refine ⟨r, _, ⟨[], [], l', [], [], [], hp, rfl, rfl, rfl, by simp, by simp, ha, rfl, rfl, rfl⟩, ?_, ?_⟩
  · simpa [zipW, cellN] using hq
  · simpa [zipW, cellN] using hk
theorem CKd_p (ha : am2s st (nuOf [] []) l l') (hp : PCall P f l' r) (hs : scal r = true) (hk : creg P q rest (putC st dst r []) K) : CKd P q rest K st dst f l :=
  CKd_w ha hp (by rw [hs]; exact fun _ => rfl) (by rw [hs]; exact hk)
theorem CKd_v (ha : am2s st (nuOf [] []) l l') (hp : PCall P f l' r) (hs : arrN2 l = []) (hk : creg P q rest (putC st dst r []) K) : CKd P q rest K st dst f l :=
  CKd_w ha hp (by rw [hs]; cases scal r <;> exact fun _ => rfl) (by rw [hs]; cases scal r <;> exact hk)
end
end Go.Proofs.Ytpaccfeiaekacaa.Vs

import Derived.Test.YtmheohnbkaoipaaVs3
section
namespace Go.Proofs.Ytmheohnbkaoipaa.Vs
set_option linter.all false
open Go.RowKit
variable {P : Program}
def QQ (C : Cx) (Q : AExit → St → Prop) : Exit → Act → World → Prop
 | .normal, a, w => ∃ st, Q .normal st ∧ CC C st a w
 | .exit i, a, w => ∃ st, Q (.exit i) st ∧ CC C st a w
 | .ret, a, w => ∃ st, Q .ret st ∧ CC C st a w
 | _, _, _ => False
def AW (P : Program) (nt : Nat) (fs : List Nat) (c : Code) (Q : AExit → St → Prop) (st : St) : Prop :=
 ∀ C a w, C.nt = nt → (∀ n, C.β0 n ≠ none → n ∈ fs) → CC C st a w → c.wp P (QQ C Q) a w
section
variable {nt : Nat} {fs : List Nat} {Q : AExit → St → Prop} {st : St}
theorem zxq {c : Code} {Q' : AExit → St → Prop} (h : AW P nt fs c Q st) (hq : ∀ e s, Q e s → Q' e s) : AW P nt fs c Q' st := by
 intro C a w hn hf hC
 refine wp_mono (h C a w hn hf hC) ?_
 intro e a w hh
 cases e <;> first | exact hh.elim | (obtain ⟨s, h1, h2⟩ := hh; exact ⟨s, hq _ _ h1, h2⟩)
theorem zbn (h : Q .normal st) : AW P nt fs .skip Q st := fun _ _ _ _ _ hC => wp_skip ⟨st, h, hC⟩
theorem zb5 {i : Nat} (h : Q (.exit i) st) : AW P nt fs (.exit i) Q st := fun _ _ _ _ _ hC => wp_exit ⟨st, h, hC⟩
theorem zbo (h : Q .ret st) : AW P nt fs .ret Q st := fun _ _ _ _ _ hC => wp_ret ⟨st, h, hC⟩
def thenQ (P : Program) (nt : Nat) (fs : List Nat) (y : Code) (Q : AExit → St → Prop) : AExit → St → Prop
 | .normal, s => AW P nt fs y Q s
 | e, s => Q e s
theorem zbm {x y : Code} (h : AW P nt fs x (thenQ P nt fs y Q) st) : AW P nt fs (.seq x y) Q st := by
 intro C a w hn hf hC
 refine wp_seq (wp_mono (h C a w hn hf hC) ?_)
 intro e a w hh
 cases e with
 | normal => obtain ⟨s, h1, h2⟩ := hh; exact h1 C a w hn hf h2
 | exit i => obtain ⟨s, h1, h2⟩ := hh; exact ⟨s, h1, h2⟩
 | ret => obtain ⟨s, h1, h2⟩ := hh; exact ⟨s, h1, h2⟩
 | _ => exact hh.elim
theorem zbl {c : Operand} {x y : Code} {t : Bool} (hc : ev st c = .g (.bool t)) (h1 : t = true → AW P nt fs x Q st) (h2 : t = false → AW P nt fs y Q st) : AW P nt fs (.cond c x y) Q st := by
 intro C a w hn hf hC
 obtain ⟨I, β, φ, hc'⟩ := id hC
 have he := zfl hc'.env c
 rw [hc] at he
 exact wp_cond_split he (fun ht => h1 ht C a w hn hf hC) (fun ht => h2 ht C a w hn hf hC)
def blockQ (id : Nat) (Q : AExit → St → Prop) : AExit → St → Prop
 | .exit i, s => bif i == id then Q .normal s else Q (.exit i) s
 | e, s => Q e s
theorem zbr {i : Nat} {c : Code} (h : AW P nt fs c (blockQ i Q) st) : AW P nt fs (.block i c) Q st := by
 intro C a w hn hf hC
 refine wp_block (wp_mono (h C a w hn hf hC) ?_)
 intro e a w hh
 cases e with
 | normal => exact hh
 | exit j =>
  obtain ⟨s, h1, h2⟩ := hh
  by_cases hj : j = i
  ·subst hj; simp only [blockQ, Exit.inBlock, if_true, beq_self_eq_true, cond_true] at h1 ⊢; exact ⟨s, h1, h2⟩
  ·have hb : (j == i) = false := by simpa using hj
   simp only [blockQ, Exit.inBlock, if_neg hj, hb, cond_false] at h1 ⊢; exact ⟨s, h1, h2⟩
 | ret => exact hh
 | _ => exact hh.elim
def dstOk (nt : Nat) (ops : Array Oper) : Bool := ops.toList.all fun o => match o.dst with | some d => decide (d < nt) | none => true
theorem zf7 {ops : Array Oper} (h : dstOk nt ops = true) : ∀ o ∈ ops.toList, ∀ d, o.dst = some d → d < nt := by
 intro o ho d hd
 have := List.all_eq_true.1 h o ho
 rw [hd] at this
 simpa using this
theorem zqf {id : Nat} {l : List Oper} (hd : dstOk nt l.toArray = true) (h : areg P l.toArray l st (Q .normal)) : AW P nt fs (.region id l.toArray false) Q st := by
 intro C a w hn hf hC
 subst hn
 exact wp_region_lit (zf6 l st a w (by simpa using zf7 hd) h hC fun st' a' w' hq hc => ⟨st', hq, hc⟩)
def Fold (fs : List Nat) (st : St) (K : List (Nat × AV) → List (Nat × OB) → Prop) : Prop :=
 ∃ Z ρ e os, LeSt fs { st with ob := updL st.ob (frzU st Z) } ρ e os ∧ K e os
theorem Fold.sound {C : Cx} {a : Act} {w : World} {K : List (Nat × AV) → List (Nat × OB) → Prop} (h : Fold fs st K) (hf : ∀ n, C.β0 n ≠ none → n ∈ fs) (hC : CC C st a w) : ∃ e os, K e os ∧ CC C (mkSt e os) a w := by
 obtain ⟨Z, ρ, e, os, h1, h2⟩ := h
 obtain ⟨I, β, φ, hC⟩ := hC
 obtain ⟨I', φ', -, hC'⟩ := zfo (st := st) Z st I φ (fun n => .inl rfl) hC
 exact ⟨e, os, h2, LeSt.sound hC' hf h1⟩
def cutQ (fs : List Nat) (J : List (Nat × AV) → List (Nat × OB) → Prop) (Q : AExit → St → Prop) : AExit → St → Prop
 | .normal, s => Fold fs s J
 | e, s => Q e s
def loopQ (fs : List Nat) (J : Nat → List (Nat × AV) → List (Nat × OB) → Prop) (m : Nat) (Q : AExit → St → Prop) : AExit → St → Prop
 | .normal, s => Fold fs s fun e os => ∃ m', m' < m ∧ J m' e os
 | e, s => Q e s
end
def resOne (P : Program) (st : St) : ResultVar → ARes
 | .tmp t => some (True, st.env t, [])
 | .cell t T => aLoad P st T (st.env t)
def resAll (P : Program) (st : St) : List ResultVar → Option (Prop × List AV)
 | [] => some (True, [])
 | r :: rs => match resOne P st r, resAll P st rs with
  | some (p, v, _), some (q, vs) => some (p ∧ q, v :: vs)
  | _, _ => none
def amR (st : St) (v r : AV) : Prop := am2 st (fun _ => none) v r
def amRs (st : St) : List AV → AV → Prop
 | [v], r => amR st v r
 | vs, .tup rs => am2s st (fun _ => none) vs rs
 | _, _ => False
def wosOk (st : St) : Nat → List (List AV) → Prop
 | _, [] => True
 | i, cs' :: r => (match st.ob (8 + i) with
  | some (.cells cs) => am1s st (fun _ => none) cs cs'
  | _ => False) ∧ wosOk st (i + 1) r
def endQ (P : Program) (rs : List ResultVar) (r : AV) (wos' : List (List AV)) (st : St) : Prop :=
 ∃ p vs, resAll P st rs = some (p, vs) ∧ p ∧ amRs st vs r ∧ wosOk st 0 wos'
def retQ (P : Program) (rs : List ResultVar) (r : AV) (wos' : List (List AV)) : AExit → St → Prop
 | .normal, s => endQ P rs r wos' s
 | .ret, s => endQ P rs r wos' s
 | _, _ => False
def formOb (ros wos : List (List AV)) (n : Nat) : Option OB :=
 if n < 8 then (ros[n]?).map .rocells else (wos[n - 8]?).map .cells
def st0 (args : List AV) (ros wos : List (List AV)) : St := { env := fun n => args.getD n .undef, ob := formOb ros wos }
def forms (nr nw : Nat) : List Nat := List.range nr ++ (List.range nw).map (8 + ·)
end Go.Proofs.Ytmheohnbkaoipaa.Vs
end
section
namespace Go.Proofs.Ytmheohnbkaoipaa.Vs
set_option linter.all false
open Go.RowKit
variable {P : Program}
section
variable {C : Cx} {st : St} {a : Act} {w : World} {I : Nat → Prop} {β : Beta} {φ : Nat → List Nat}
theorem zmb (hC : Conc C st a w I β φ) {t : TypeId} {av v : AV} {x : Value} {c : Prop} {u : Ups} (hx : Rv w I β av x) (h : aLoad P st t av = some (c, v, u)) (hc : c) :
 ∃ y, (do loadVar t (← asAddr x) : Sem Value).run P w = .ok y w ∧ Rv w I β v y := by
 obtain ⟨-, y, hy, hr⟩ := zmr hC hx h hc
 refine ⟨y, ?_, hr⟩
 have hs : ∃ b o, x = .pointer (some ⟨b, o, none⟩) := by
  unfold aLoad at h
  split at h
  ·rename_i T cs hT hcs
   obtain ⟨b, o, rfl, -⟩ := zjo hC hx hcs
   exact ⟨b, o, rfl⟩
  ·cases h
 obtain ⟨b, o, rfl⟩ := hs
 exact hy
def resRun (tmps : Array Value) : ResultVar → Sem Value
 | .tmp t => pure (tmps.getD t undef)
 | .cell a t => do loadVar t (← asAddr (tmps.getD a undef))
theorem zg1 (hC : Conc C st a w I β φ) : ∀ (rs : List ResultVar) (p : Prop) (vs : List AV), resAll P st rs = some (p, vs) → p →
 ∃ ys : List Value, ys.length = vs.length ∧ (rs.mapM (resRun a.tmps)).run P w = .ok ys w ∧ ∀ (i : Nat) v, vs[i]? = some v → ∃ y, ys[i]? = some y ∧ Rv w I β v y
 | [], p, vs, h, _ => by cases h; exact ⟨[], rfl, by simp, by simp⟩
 | r :: rs, p, vs, h, hp => by
  unfold resAll at h
  split at h
  ·rename_i p1 v u q vs' h1 h2
   cases h
   obtain ⟨ys, hl, hrun, hget⟩ := zg1 hC rs q vs' h2 hp.2
   have hone : ∃ y, (resRun a.tmps r).run P w = .ok y w ∧ Rv w I β v y := by
    cases r with
    | tmp t =>
     cases h1
     exact ⟨a.tmps.getD t undef, by simp [resRun], hC.env t⟩
    | cell t T => exact zmb hC (hC.env t) h1 hp.1
   obtain ⟨y, hy, hry⟩ := hone
   refine ⟨y :: ys, by simp [hl], by simp [List.mapM_cons, hy, hrun], fun i x hx => ?_⟩
   cases i with
   | zero => simp at hx; subst hx; exact ⟨y, rfl, hry⟩
   | succ i => simpa using hget i x (by simpa using hx)
  ·cases h
theorem zj9 : ∀ (l : List AV) (ys : List Value), l.length = ys.length → (∀ (i : Nat) v, l[i]? = some v → ∃ y, ys[i]? = some y ∧ Rv2 w I β v y) → Rv2s w I β l ys
 | [], ys, h, _ => by cases ys with | nil => rfl | cons _ _ => simp at h
 | v :: l, [], h, _ => by simp at h
 | v :: l, y :: ys, h, hg => by
  obtain ⟨y', h1, h2⟩ := hg 0 v rfl
  cases h1
  exact ⟨_, _, rfl, h2, zj9 l ys (by simpa using h) fun i x hx => by simpa using hg (i + 1) x (by simpa using hx)⟩
theorem zlc : ∀ (v : AV) (x : Value), (∀ vs, v ≠ .tup vs) → Rv w I β v x → Rv2 w I β v x
 | .tup _, _, h, _ => (h _ rfl).elim
 | .g _, _, _, h | .s _, _, _, h | .sl .., _, _, h | .arr .., _, _, h | .ptr .., _, _, h | .eptr .., _, _, h | .ip .., _, _, h | .fn .., _, _, h | .agg _, _, _, h | .undef, _, _, h => h
end
def endN (st : St) (vs : List AV) : List Nat := arrN2 vs ++ cellN st (List.range 16)
theorem st0_conc {args : List AV} {ros wos : List (List AV)} {w : World} {I : Nat → Prop} {β : Beta} {vs : List Value} {nt : Nat} (hnt : vs.length ≤ nt) (hI : ∀ b, I b → b < w.heap.size) (hargs : Rv2s w I β args vs) (h8 : ros.length ≤ 8)
 (hn : ∀ n, ¬ fname ros.length wos.length n → β n = none)
 (hr : ∀ (i : Nat) cs, ros[i]? = some cs → ∃ bl, β i = some bl ∧ ¬ I bl.b ∧ bl.b < w.heap.size ∧ Rcs w I β bl.b bl.o cs)
 (hw : ∀ (i : Nat) cs, wos[i]? = some cs → ∃ bl, β (8 + i) = some bl ∧ ¬ I bl.b ∧ bl.b < w.heap.size ∧ OwnW w bl.b bl.o cs.length ∧ Rcs w I β bl.b bl.o cs)
 (hinj : ∀ n m bl bl', n ≠ m → β n = some bl → β m = some bl' → bl.b ≠ bl'.b) :
 Conc ⟨w, I, fun b => ∃ i bl, i < wos.length ∧ β (8 + i) = some bl ∧ bl.b = b, fun b => ∃ i bl, i < ros.length ∧ β i = some bl ∧ bl.b = b, β, nt⟩ (st0 args ros wos)
  { tmps := ⟨vs⟩ ++ Array.replicate (nt - vs.length) undef, defers := [] } w I β (fun n => match formOb ros wos n, β n with | some _, some bl => [bl.b] | _, _ => []) := by
 have hform : ∀ n o, formOb ros wos n = some o → (∃ cs, o = .rocells cs ∧ n < 8 ∧ ros[n]? = some cs) ∨ (∃ cs, o = .cells cs ∧ 8 ≤ n ∧ wos[n - 8]? = some cs) := by
  intro n o h
  unfold formOb at h
  split at h
  ·rename_i hlt
   obtain ⟨cs, h1, rfl⟩ := Option.map_eq_some_iff.1 h
   exact .inl ⟨cs, rfl, hlt, h1⟩
  ·rename_i hlt
   obtain ⟨cs, h1, rfl⟩ := Option.map_eq_some_iff.1 h
   exact .inr ⟨cs, rfl, by omega, h1⟩
 have hobj : ∀ n o, formOb ros wos n = some o → ∃ bl, β n = some bl ∧ ¬ I bl.b ∧ bl.b < w.heap.size := by
  intro n o h
  rcases hform n o h with ⟨cs, -, h1, h2⟩ | ⟨cs, -, h1, h2⟩
  ·obtain ⟨bl, g1, g2, g3, -⟩ := hr n cs h2; exact ⟨bl, g1, g2, g3⟩
  ·obtain ⟨bl, g1, g2, g3, -⟩ := hw (n - 8) cs h2
   rw [show 8 + (n - 8) = n by omega] at g1
   exact ⟨bl, g1, g2, g3⟩
 have hphi : ∀ n b, b ∈ (match formOb ros wos n, β n with | some _, some bl => [bl.b] | _, _ => []) → ∃ o bl, formOb ros wos n = some o ∧ β n = some bl ∧ bl.b = b := by
  intro n b h
  split at h
  ·rename_i o bl h1 h2
   simp at h
   exact ⟨o, bl, h1, h2, h.symm⟩
  ·simp at h
 refine ⟨Evo.refl _ _, hI, fun _ h => h, fun _ h => .inl h, ?_, rfl, ?_, ?_, ?_, ?_, ?_, ?_, ?_, ?_, ?_, ?_, ?_, fun n bl h => h⟩
 ·simp; omega
 ·intro t
  show Rv w I β (args.getD t .undef) _
  have : ∀ (l : List AV) (ys : List Value), Rv2s w I β l ys → ∀ (t : Nat) v, l[t]? = some v → ∃ y, ys[t]? = some y ∧ Rv2 w I β v y := by
   intro l
   induction l with
   | nil => intro ys _ t v h; simp at h
   | cons c l ih =>
    rintro _ ⟨y, ys, rfl, h1, h2⟩ t v h
    cases t with
    | zero => simp at h; subst h; exact ⟨y, rfl, h1⟩
    | succ t => simpa using ih ys h2 t v (by simpa using h)
  cases ht : args[t]? with
  | none => simp [List.getD, ht]; exact trivial
  | some v =>
   obtain ⟨y, h1, h2⟩ := this _ _ hargs t v ht
   have hlt := (List.getElem?_eq_some_iff.1 h1).1
   have : (⟨vs⟩ ++ Array.replicate (nt - vs.length) undef : Array Value).getD t undef = y := by
    rw [Array.getD_eq_getD_getElem?, Array.getElem?_append_left (by simpa using hlt)]
    simp [h1]
   rw [this]
   simp only [List.getD, ht, Option.getD_some]
   exact zhp _ _ h2
 ·intro n o ho
  have ho : formOb ros wos n = some o := ho
  simp only [ho]
  rcases hform n o ho with ⟨cs, rfl, h1, h2⟩ | ⟨cs, rfl, h1, h2⟩
  ·obtain ⟨bl, g1, g2, g3, g4⟩ := hr n cs h2
   rw [g1]
   exact ⟨bl, g1, rfl, g4⟩
  ·obtain ⟨bl, g1, g2, g3, g4, g5⟩ := hw (n - 8) cs h2
   rw [show 8 + (n - 8) = n by omega] at g1
   rw [g1]
   exact ⟨bl, g1, rfl, g4, g5⟩
 ·intro n h
  apply hn
  rintro (h1 | ⟨h1, h2⟩)
  ·have : formOb ros wos n = none := h
   unfold formOb at this
   rw [if_pos (by omega)] at this
   simp at this
   omega
  ·have : formOb ros wos n = none := h
   unfold formOb at this
   rw [if_neg (by omega)] at this
   simp at this
   omega
 ·intro n h
  have : formOb ros wos n = none := h
  simp only [this]
 ·intro n m hnm b h1 h2
  obtain ⟨o, bl, -, g1, rfl⟩ := hphi n b h1
  obtain ⟨o', bl', -, g2, g3⟩ := hphi m _ h2
  exact hinj n m bl bl' hnm g1 g2 g3.symm
 ·intro n b h
  obtain ⟨o, bl, g0, g1, rfl⟩ := hphi n b h
  obtain ⟨bl', k1, k2, k3⟩ := hobj n o g0
  rw [g1] at k1; cases k1
  exact k2
 ·intro n b h
  obtain ⟨o, bl, g0, g1, rfl⟩ := hphi n b h
  obtain ⟨bl', k1, k2, k3⟩ := hobj n o g0
  rw [g1] at k1; cases k1
  refine ⟨k3, ?_⟩
  rcases hform n o g0 with ⟨cs, -, h1, h2⟩ | ⟨cs, -, h1, h2⟩
  ·exact .inr (.inl ⟨n, bl, (List.getElem?_eq_some_iff.1 h2).1, g1, rfl⟩)
  ·exact .inl ⟨n - 8, bl, (List.getElem?_eq_some_iff.1 h2).1, by rw [show 8 + (n - 8) = n by omega]; exact g1, rfl⟩
 ·rintro n cs ho hwr b h ⟨i, bl', h1, h2, h3⟩
  obtain ⟨o, bl, g0, g1, rfl⟩ := hphi n b h
  rcases hform n _ ho with ⟨cs', rfl, -⟩ | ⟨cs', -, h4, -⟩
  ·cases hwr
  ·exact hinj n i bl bl' (by omega) g1 h2 h3.symm
 ·rintro b ⟨i, bl, h1, h2, rfl⟩
  obtain ⟨bl', g1, g2, g3, -⟩ := hr i _ (List.getElem?_eq_getElem h1)
  rw [h2] at g1; cases g1; exact g3
 ·intro n sz xs ho b h
  rcases hform n _ ho with ⟨cs', h4, -⟩ | ⟨cs', h4, -⟩ <;> cases h4
 ·rintro b ⟨i, bl, h1, h2, rfl⟩
  obtain ⟨bl', g1, g2, g3, -⟩ := hw i _ (List.getElem?_eq_getElem h1)
  rw [h2] at g1; cases g1; exact g3
theorem frz_same (st : St) (Z : List Nat) : ∀ n sz ys, (st.ob n = some (.flat sz ys) ∨ st.ob n = some (.shared sz ys)) → (updL st.ob (frzU st Z) n = some (.flat sz ys) ∨ updL st.ob (frzU st Z) n = some (.shared sz ys)) := by
 intro n sz ys ho
 by_cases hin : n ∈ Z
 ·exact .inr (zgc _ _ _ _ _ hin ho (.inl rfl))
 ·rw [zfh _ _ _ hin]; exact ho
theorem frz_nf (st : St) (Z : List Nat) : ∀ n ∈ Z, ∀ sz ys, updL st.ob (frzU st Z) n ≠ some (.flat sz ys) := by
 intro n hn sz ys ho
 have : ∀ (ns : List Nat) (ob : Nat → Option OB), updL ob (frzU st ns) n = some (.flat sz ys) → ob n = some (.flat sz ys) := by
  intro ns
  induction ns with
  | nil => intro ob h; exact h
  | cons k ns ih =>
   intro ob h
   unfold frzU at h
   split at h
   ·rw [zci] at h
    have := ih _ h
    by_cases hk : n = k
    ·subst hk; simp [zbj] at this
    ·rwa [zbg _ _ hk] at this
   ·exact ih _ h
 have h1 := this _ _ ho
 rw [zgc _ _ _ _ _ hn (.inl h1) (.inl rfl)] at ho
 cases ho
theorem zxr (st : St) (Z : List Nat) : ∀ n cs, st.ob n = some (.cells cs) → updL st.ob (frzU st Z) n = some (.cells cs) := by
 intro n cs h
 have : ∀ (ns : List Nat) (ob : Nat → Option OB), ob n = some (.cells cs) → updL ob (frzU st ns) n = some (.cells cs) := by
  intro ns
  induction ns with
  | nil => intro ob h; exact h
  | cons k ns ih =>
   intro ob h'
   unfold frzU
   split
   ·rename_i sz xs hk
    rw [zci]
    refine ih _ ?_
    by_cases hkn : n = k
    ·subst hkn; rw [h] at hk; cases hk
    ·rw [zbg _ _ hkn]; exact h'
   ·exact ih _ h'
 exact this _ _ h
theorem zqg {st : St} : ∀ (i : Nat) (wos' : List (List AV)), wosOk st i wos' → ∀ (j : Nat) cs', wos'[j]? = some cs' → ∃ cs, st.ob (8 + (i + j)) = some (.cells cs) ∧ am1s st (fun _ => none) cs cs'
 | i, [], _, j, cs', h => by simp at h
 | i, c :: r, h, j, cs', hj => by
  cases j with
  | zero =>
   simp at hj; subst hj
   have h1 := h.1
   split at h1
   ·rename_i cs hcs; exact ⟨cs, by simpa using hcs, h1⟩
   ·exact h1.elim
  | succ j =>
   have := zqg (i + 1) r h.2 j cs' (by simpa using hj)
   rwa [show i + 1 + j = i + (j + 1) by omega] at this
theorem zxs {st : St} {v r : AV} (h : amR st v r) : ∀ vs, v ≠ .tup vs := by
 rintro vs rfl; simp [amR, am2] at h
theorem amRs_two {st : St} {vs : List AV} {r : AV} (h : amRs st vs r) : (∃ v, vs = [v] ∧ amR st v r) ∨ (vs.length ≠ 1 ∧ ∃ rs, r = .tup rs ∧ am2s st (fun _ => none) vs rs) := by
 unfold amRs at h
 split at h
 ·exact .inl ⟨_, rfl, h⟩
 ·rename_i vs rs hne
  refine .inr ⟨?_, rs, rfl, h⟩
  intro hl
  obtain ⟨v, rfl⟩ := List.length_eq_one_iff.1 hl
  exact hne v rfl
 ·exact h.elim
theorem zjf (fn : Func) (tmps : Array Value) : results fn tmps = (do let vs ← fn.results.mapM (resRun tmps); pure (if h : vs.size = 1 then vs[0] else .tuple vs) : Sem Value) := by
 unfold results
 congr 1
theorem Sem.run_map' {α β : Type} (f : α → β) (s : Sem α) (w : World) : (f <$> s).run P w = (s.run P w).andThen fun a w => .ok (f a) w := by
 rw [map_eq_pure_bind, Sem.run_bind]
 simp
theorem zbv {f : FuncId} {fn : Func} {c : Code} {args : List AV} {ros wos : List (List AV)} {r : AV} {wos' : List (List AV)}
 (hf : P.funcs[f]? = some fn) (hname : (fn.name == "runtime.NumGoroutine") = false) (hb : fn.body = some c) (hnt : args.length ≤ fn.ntmps) (hlen : wos'.length = wos.length) (hw8 : wos.length ≤ 8)
 (h : AW P fn.ntmps (forms ros.length wos.length) c (retQ P fn.results.toList r wos') (st0 args ros wos)) : GCall P f args ros wos r wos' := by
 refine ⟨⟨fn, hf, hname, by rw [hb]; rfl⟩, ?_⟩
 intro w I β vs hI hargs h8 hn hr hw hinj
 have hvl : vs.length = args.length := by
  have : ∀ (l : List AV) (ys : List Value), Rv2s w I β l ys → ys.length = l.length := by
   intro l
   induction l with
   | nil => rintro _ rfl; rfl
   | cons c l ih => rintro _ ⟨y, ys, rfl, -, h2⟩; simp [ih ys h2]
  exact this _ _ hargs
 have hC0 := st0_conc (nt := fn.ntmps) (vs := vs) (by omega) hI hargs h8 hn hr hw hinj
 refine calls_of_wp hf hb (wp_mono (h _ _ w rfl ?_ ⟨_, _, _, hC0⟩) ?_)
 ·intro n hne
  have : fname ros.length wos.length n := by
   apply Classical.byContradiction
   intro hh; exact hne (hn n hh)
  unfold forms
  rcases this with h1 | ⟨h1, h2⟩
  ·exact List.mem_append.2 (.inl (List.mem_range.2 h1))
  ·exact List.mem_append.2 (.inr (List.mem_map.2 ⟨n - 8, List.mem_range.2 (by omega), by omega⟩))
 ·intro e a w' hq
  have key : (∃ st, endQ P fn.results.toList r wos' st ∧ CC ⟨w, I, fun b => ∃ i bl, i < wos.length ∧ β (8 + i) = some bl ∧ bl.b = b, fun b => ∃ i bl, i < ros.length ∧ β i = some bl ∧ bl.b = b, β, fn.ntmps⟩ st a w') →
   a.defers = [] ∧ ∃ v, (results fn a.tmps).run P w' = .ok v w' ∧ ∃ v' I', Ending.returned v = .returned v' ∧ Evo (fun b => ∃ i bl, i < wos.length ∧ β (8 + i) = some bl ∧ bl.b = b) w w' ∧ (∀ b, I b → I' b) ∧ (∀ b, I' b → I b ∨ (w.heap.size ≤ b ∧ b < w'.heap.size)) ∧
    Rv w' I' (fun _ => none) r v' ∧ wos'.length = wos.length ∧ ∀ (i : Nat) cs, wos'[i]? = some cs → ∃ bl, β (8 + i) = some bl ∧ OwnW w' bl.b bl.o cs.length ∧ Rcs w' I' (fun _ => none) bl.b bl.o cs := by
   rintro ⟨st, ⟨p, avs, hres, hp, hr', hwos'⟩, I1, β1, φ1, hC1⟩
   obtain ⟨ys, hyl, hrun, hget⟩ := zg1 hC1 _ _ _ hres hp
   obtain ⟨I2, φ2, hI2, hC2⟩ := zfo (st := st) (endN st avs) st I1 φ1 (fun n => .inl rfl) hC1
   have hsame := frz_same st (endN st avs)
   have hnf := frz_nf st (endN st avs)
   have hget2 : ∀ (i : Nat) v, avs[i]? = some v → ∃ y, ys[i]? = some y ∧ Rv w' I2 β1 v y := by
    intro i v hv
    obtain ⟨y, h1, h2⟩ := hget i v hv
    exact ⟨y, h1, zh4 hI2 (fun _ _ => rfl) (fun _ _ h => h) _ _ h2⟩
   refine ⟨hC1.dfr, (if ys.length = 1 then ys.getD 0 undef else .tuple ⟨ys⟩), ?_, _, I2, rfl, hC2.evo, hC2.imm0, ?_, ?_, hlen, ?_⟩
   ·rw [zjf, Sem.run_bind, Array.mapM_eq_mapM_toList, Sem.run_map', hrun]
    simp only [Result.andThen_ok, Sem.run_pure]
    congr 1
    match ys with
    | [] => rfl
    | [y] => rfl
    | y :: z :: l => rfl
   ·intro b hb
    rcases hC2.immNew b hb with h1 | h1
    ·exact .inl h1
    ·exact .inr ⟨h1, hC2.immLt b hb⟩
   ·rcases amRs_two hr' with ⟨v, rfl, hm⟩ | ⟨hne, rs, rfl, hm⟩
    ·obtain ⟨y, h1, h2⟩ := hget2 0 v rfl
     have hl1 : ys.length = 1 := by simpa using hyl
     rw [if_pos hl1]
     have : ys.getD 0 undef = y := by simp [List.getD, h1]
     rw [this]
     refine zhp _ _ (zqa hC2 (fun _ _ h => by cases h) v r (fun n hn => hnf n (by simp [endN, hn])) (am2_ob hsame _ _ hm) (zlc _ _ (zxs hm) h2))
    ·rw [if_neg (by omega)]
     refine ⟨ys, rfl, zjb hC2 (fun _ _ h => by cases h) avs rs (fun n hn => hnf n (by simp [endN, hn])) (zsc hsame _ _ hm) (zj9 _ _ hyl.symm fun i v hv => ?_)⟩
     obtain ⟨y, h1, h2⟩ := hget2 i v hv
     exact ⟨y, h1, zlc _ _ (fun vs => zg0 _ _ hm v (List.mem_of_getElem? hv) vs) h2⟩
   ·intro i cs' hi
    obtain ⟨cs, h1, h2⟩ := zqg 0 wos' hwos' i cs' hi
    rw [show 8 + (0 + i) = 8 + i by omega] at h1
    have hi8 : i < 8 := by have := (List.getElem?_eq_some_iff.1 hi).1; omega
    obtain ⟨bl, g1, g2, ⟨arr, ty, g3, g4⟩, g5⟩ := hC2.ob _ _ (zxr st (endN st avs) _ _ h1)
    have hlt : i < wos.length := by rw [← hlen]; exact (List.getElem?_eq_some_iff.1 hi).1
    obtain ⟨bl', k1, -⟩ := hw i _ (List.getElem?_eq_getElem hlt)
    have := hC2.bet _ _ k1
    rw [this] at g1; cases g1
    refine ⟨bl, k1, ⟨arr, ty, g3, ?_⟩, ?_⟩
    ·have := (zj8 _ _ h2).1; omega
    ·exact ztw hC2 (fun _ _ h => by cases h) (fun n hn => hnf n (by
      refine List.mem_append.2 (.inr (zk6 _ (8 + i) cs (List.mem_range.2 (by omega)) (.inl h1) n hn)))) (znz hsame _ _ h2) g5
  cases e with
  | normal => exact key hq
  | ret => exact key hq
  | exit i => obtain ⟨s, h1, h2⟩ := hq; exact h1.elim
  | _ => exact hq.elim
end Go.Proofs.Ytmheohnbkaoipaa.Vs
end
section
namespace Go.Proofs.Ytmheohnbkaoipaa.Vs
set_option linter.all false
open Go.RowKit
variable {P : Program}
section env
variable {st st' : St} (hob : st'.ob = st.ob)
include hob
theorem zsd (x : AV) : cellsAt st' x = cellsAt st x := by unfold cellsAt; rw [hob]
theorem zxt (t : TypeId) (x : AV) : aLoad P st' t x = aLoad P st t x := by unfold aLoad; rw [zsd hob]
theorem zqh (x : AV) : viewCell st' x = viewCell st x := by unfold viewCell; rw [hob]
theorem zgf : ∀ (l : List AV), viewCells st' l = viewCells st l
 | [] => rfl
 | c :: cs => by unfold viewCells; rw [zqh hob, zgf cs]
theorem zka : ∀ (l : List Nat), frzU st' l = frzU st l
 | [] => rfl
 | n :: r => by unfold frzU; rw [zka r, hob]
theorem zwa (t : TypeId) (x v : AV) : aStore P st' t x v = aStore P st t x v := by
 unfold aStore
 simp only [hob, zgf hob, zka hob]
theorem zld (nm : Nat) (t : TypeId) (len : Nat) (ps : List (Nat × AV)) : aBuildSlice P st' nm t len ps = aBuildSlice P st nm t len ps := by
 unfold aBuildSlice
 simp only [hob, zgf hob, zka hob]
theorem zmc (nm : Nat) (t : TypeId) (l c : AV) : aMakeSlice P nm st' t l c = aMakeSlice P nm st t l c := by
 unfold aMakeSlice
 simp only [hob]
theorem zwb (t : TypeId) (x : AV) (lo hi : Option AV) : aSlice P st' t x lo hi = aSlice P st t x lo hi := by
 unfold aSlice
 simp only [hob]
theorem zmd (t : TypeId) (x i : AV) : aIndexAddr P st' t x i = aIndexAddr P st t x i := by
 unfold aIndexAddr
 simp only [hob]
theorem zqi (sz : Nat) (x : AV) : aNews st' sz x = aNews st sz x := by
 unfold aNews
 simp only [hob]
theorem zxu (a b : TypeId) (x : AV) : aConv P st' a b x = aConv P st a b x := by
 unfold aConv
 simp only [zqi hob]
theorem zqj (nm : Nat) (b : Builtin) (ts : List TypeId) (args : List AV) : aBuiltin P st' nm b ts args = aBuiltin P st nm b ts args := by
 unfold aBuiltin aAppend
 simp only [hob, zqi hob]
theorem zxv (ν : Nat → Option Nat) (x y : AV) : am0 st' ν x y = am0 st ν x y := by unfold am0; simp only [hob]
theorem zty (ν : Nat → Option Nat) : ∀ (x y : List AV), am0s st' ν x y = am0s st ν x y
 | [], _ => rfl
 | _ :: _, [] => rfl
 | c :: cs, d :: ds => by unfold am0s; rw [zxv hob, zty ν cs ds]
theorem zxw (ν : Nat → Option Nat) (x y : AV) : am1 st' ν x y = am1 st ν x y := by unfold am1; simp only [zxv hob, zty hob]
theorem zkb (ν : Nat → Option Nat) : ∀ (x y : List AV), am1s st' ν x y = am1s st ν x y
 | [], _ => rfl
 | _ :: _, [] => rfl
 | c :: cs, d :: ds => by unfold am1s; rw [zxw hob, zkb ν cs ds]
theorem am2_env (ν : Nat → Option Nat) (x y : AV) : am2 st' ν x y = am2 st ν x y := by unfold am2; simp only [zxw hob, zkb hob]
theorem ztz (ν : Nat → Option Nat) : ∀ (x y : List AV), am2s st' ν x y = am2s st ν x y
 | [], _ => rfl
 | _ :: _, [] => rfl
 | c :: cs, d :: ds => by unfold am2s; rw [am2_env hob, ztz ν cs ds]
theorem zqk (ν : Nat → Option Nat) : ∀ (x : List Nat) (y : List (List AV)), objsR st' ν x y = objsR st ν x y
 | [], _ => rfl
 | _ :: _, [] => rfl
 | c :: cs, d :: ds => by unfold objsR; rw [zqk ν cs ds]; simp only [hob, zkb hob]
theorem zql (ν : Nat → Option Nat) : ∀ (x : List Nat) (y : List (List AV)), objsW st' ν x y = objsW st ν x y
 | [], _ => rfl
 | _ :: _, [] => rfl
 | c :: cs, d :: ds => by unfold objsW; rw [zql ν cs ds]; simp only [hob, zkb hob]
theorem zqm : ∀ (x : List Nat), cellN st' x = cellN st x
 | [] => rfl
 | c :: cs => by unfold cellN; rw [zqm cs, hob]
theorem zxx (f : FuncId) (l : List AV) (v : AV) (u : Ups) : GStep P st' f l v u = GStep P st f l v u := by
 unfold GStep
 simp only [ztz hob, zqk hob, zql hob, zqm hob, zka hob]
omit hob in
theorem zqn (l : List (Nat × Operand)) (h : ∀ p ∈ l, ev st' p.2 = ev st p.2) : parts st' l = parts st l := by
 unfold parts
 exact List.map_congr_left fun p hp => by rw [h p hp]
theorem zxy (nm : Nat) (o : Op) (h : ∀ x ∈ o.operands, ev st' x = ev st x) : aop P st' nm o = aop P st nm o := by
 have pairs : ∀ ps : Array (Nat × Operand), (∀ x ∈ ps.map (·.2), ev st' x = ev st x) → parts st' ps.toList = parts st ps.toList := fun ps hp =>
  zqn _ fun p hm => hp p.2 (Array.mem_map.2 ⟨p, by simpa using hm, rfl⟩)
 cases o with
 | build t ps => simp only [aop]; rw [pairs ps fun x hx => h x (by simpa [Op.operands] using hx)]
 | buildSlice t n ps => simp only [aop]; rw [zld hob, pairs ps fun x hx => h x (by simpa [Op.operands] using hx)]
 | makeFunc fn first captured =>
  have h1 : first.toList.map (ev st') = first.toList.map (ev st) := List.map_congr_left fun x hx => h x (by simp [Op.operands]; exact .inl (by simpa using hx))
  have h2 : captured.toList.map (ev st') = captured.toList.map (ev st) := List.map_congr_left fun x hx => h x (by simp [Op.operands]; exact .inr (by simpa using hx))
  cases fn <;> simp only [aop, h1, h2]
 | slice t x lo hi mx =>
  cases mx with
  | some m => rfl
  | none =>
   have h1 : ev st' x = ev st x := h x (by simp [Op.operands])
   have h2 : lo.map (ev st') = lo.map (ev st) := by
    cases lo with
    | none => rfl
    | some y => simp only [Option.map_some]; rw [h y (by cases hi <;> simp [Op.operands])]
   have h3 : hi.map (ev st') = hi.map (ev st) := by
    cases hi with
    | none => rfl
    | some y => simp only [Option.map_some]; rw [h y (by cases lo <;> simp [Op.operands])]
   simp only [aop, h1, h2, h3, zwb hob]
 | _ => simp only [Op.operands] at h <;> simp only [aop, hob, zxt hob, zwa hob, zmd hob, zmc hob, zxu hob] <;> first | rfl | (simp_all; done)
theorem zxz {o : Oper} {v : AV} {u : Ups} (h : ∀ x ∈ o.op.operands, ev st' x = ev st x) (hs : AStep P st o v u) : AStep P st' o v u := by
 obtain ⟨dst, op, ty, pos, aft, gd⟩ := o
 unfold AStep at hs ⊢
 cases op with
 | call c =>
  have hargs : c.args.toList.map (ev st') = c.args.toList.map (ev st) := List.map_congr_left fun x hx => h x (by
   have : x ∈ c.args := by simpa using hx
   simp [Op.operands, Call.operands, this])
  simp only at hs ⊢
  cases hc : c.callee with
  | builtin b => rw [hc] at hs; simp only at hs ⊢; rw [zqj hob, hargs]; exact hs
  | invoke _ _ => rw [hc] at hs; exact hs
  | value f =>
   rw [hc] at hs
   simp only at hs ⊢
   have hf : ev st' f = ev st f := h f (by simp [Op.operands, Call.operands, hc])
   rw [hf]
   split at hs
   ·rename_i fid fst cap he
    rw [zxx hob, hargs]
    exact hs
   ·exact hs.elim
 | _ => simp only at hs ⊢; rw [zxy hob]; exact hs; exact h
end env
end Go.Proofs.Ytmheohnbkaoipaa.Vs
end
section
namespace Go.Proofs.Ytmheohnbkaoipaa.Vs
set_option linter.all false
open Go.RowKit
variable {P : Program}
def OB.xk : OB → Bool
 | .cells _ => true
 | .own .. => true
 | .dead => true
 | _ => false
def postOb (wos fos : List OB) (n : Nat) : Option OB := if n < 16 then (if n < 8 then none else wos[n - 8]?) else fos[n - 16]?
def XCall (P : Program) (f : FuncId) (args : List AV) (wos : List OB) (r : AV) (wos' fos : List OB) : Prop :=
 (∃ fn, P.funcs[f]? = some fn ∧ (fn.name == "runtime.NumGoroutine") = false ∧ fn.body.isNone = false) ∧ wos'.length = wos.length ∧ wos.length ≤ 8 ∧ (wos' ++ fos).all OB.xk = true ∧
 ∀ (w : World) (I : Nat → Prop) (β : Beta) (χ : Nat → List Nat) (vs : List Value),
  (∀ b, I b → b < w.heap.size) → Rv2s w I β args vs →
  (∀ n, postOb wos [] n = none → β n = none ∧ χ n = []) →
  (∀ n o, postOb wos [] n = some o → RO w I β n o (χ n)) →
  (∀ n m, n ≠ m → ∀ b, b ∈ χ n → b ∈ χ m → False) →
  (∀ n b, b ∈ χ n → ¬ I b ∧ b < w.heap.size) →
  Calls P f ⟨vs⟩ w fun e w' => ∃ (v : Value) (I' : Nat → Prop) (β' : Beta) (χ' : Nat → List Nat), e = .returned v ∧ Evo (fun b => ∃ n, b ∈ χ n) w w' ∧ (∀ b, I b → I' b) ∧ (∀ b, I' b → I b ∨ (w.heap.size ≤ b ∧ b < w'.heap.size)) ∧
   Rv w' I' β' r v ∧ (∀ n bl, β n = some bl → β' n = some bl) ∧
   (∀ n, postOb wos' fos n = none → β' n = none ∧ χ' n = []) ∧
   (∀ n o, postOb wos' fos n = some o → RO w' I' β' n o (χ' n)) ∧
   (∀ n m, n ≠ m → ∀ b, b ∈ χ' n → b ∈ χ' m → False) ∧
   (∀ n b, b ∈ χ' n → ¬ I' b ∧ b < w'.heap.size ∧ ((∃ m, b ∈ χ m) ∨ w.heap.size ≤ b))
def XCallE (P : Program) (f : FuncId) (args : List AV) (wos : List OB) (nf : Nat) (Po : AV → List OB → List OB → Prop) : Prop :=
 (∃ fn, P.funcs[f]? = some fn ∧ (fn.name == "runtime.NumGoroutine") = false ∧ fn.body.isNone = false) ∧ wos.length ≤ 8 ∧
 ∀ (w : World) (I : Nat → Prop) (β : Beta) (χ : Nat → List Nat) (vs : List Value),
  (∀ b, I b → b < w.heap.size) → Rv2s w I β args vs →
  (∀ n, postOb wos [] n = none → β n = none ∧ χ n = []) →
  (∀ n o, postOb wos [] n = some o → RO w I β n o (χ n)) →
  (∀ n m, n ≠ m → ∀ b, b ∈ χ n → b ∈ χ m → False) →
  (∀ n b, b ∈ χ n → ¬ I b ∧ b < w.heap.size) →
  Calls P f ⟨vs⟩ w fun e w' => ∃ (r : AV) (wos' fos : List OB), Po r wos' fos ∧ wos'.length = wos.length ∧ fos.length = nf ∧ (wos' ++ fos).all OB.xk = true ∧
   ∃ (v : Value) (I' : Nat → Prop) (β' : Beta) (χ' : Nat → List Nat), e = .returned v ∧ Evo (fun b => ∃ n, b ∈ χ n) w w' ∧ (∀ b, I b → I' b) ∧ (∀ b, I' b → I b ∨ (w.heap.size ≤ b ∧ b < w'.heap.size)) ∧
   Rv w' I' β' r v ∧ (∀ n bl, β n = some bl → β' n = some bl) ∧
   (∀ n, postOb wos' fos n = none → β' n = none ∧ χ' n = []) ∧
   (∀ n o, postOb wos' fos n = some o → RO w' I' β' n o (χ' n)) ∧
   (∀ n m, n ≠ m → ∀ b, b ∈ χ' n → b ∈ χ' m → False) ∧
   (∀ n b, b ∈ χ' n → ¬ I' b ∧ b < w'.heap.size ∧ ((∃ m, b ∈ χ m) ∨ w.heap.size ≤ b))
theorem zx0 {f : FuncId} {args : List AV} {wos : List OB} {r : AV} {wos' fos : List OB} (h : XCall P f args wos r wos' fos) {Po : AV → List OB → List OB → Prop} (hp : Po r wos' fos) : XCallE P f args wos fos.length Po := by
 obtain ⟨h1, h2, h3, h4, h5⟩ := h
 refine ⟨h1, h3, fun w I β χ vs g1 g2 g3 g4 g5 g6 => (h5 w I β χ vs g1 g2 g3 g4 g5 g6).mono ?_⟩
 rintro e w' ⟨v, I', β', χ', hh⟩
 exact ⟨r, wos', fos, hp, h2, rfl, h4, v, I', β', χ', hh⟩
theorem XCallE.mono {f : FuncId} {args : List AV} {wos : List OB} {nf : Nat} {Po Po' : AV → List OB → List OB → Prop} (h : XCallE P f args wos nf Po) (hp : ∀ r wos' fos, Po r wos' fos → Po' r wos' fos) : XCallE P f args wos nf Po' := by
 obtain ⟨h1, h2, h3⟩ := h
 refine ⟨h1, h2, fun w I β χ vs g1 g2 g3 g4 g5 g6 => (h3 w I β χ vs g1 g2 g3 g4 g5 g6).mono ?_⟩
 rintro e w' ⟨r, wos', fos, hq, hh⟩
 exact ⟨r, wos', fos, hp _ _ _ hq, hh⟩
mutual
theorem RW_RI {w : World} {I : Nat → Prop} : ∀ (c : AV) (x : Value) (F : List Nat), (∀ b ∈ F, I b) → RW w c x F → RI w I c x
 | .g v, x, F, _, h => by rw [RW] at h; rw [RI]; exact ⟨h.1, h.2.1⟩
 | .s v, x, F, _, h => by rw [RW] at h; rw [RI]; exact h.1
 | .sl sz xs, x, F, hF, h => by
  rw [RW] at h
  rw [RI]
  obtain ⟨a, cap, h1, h2, ⟨rfl, -⟩ | ⟨b, F', h3, rfl, -, h5⟩⟩ := h
  ·exact ⟨a, cap, h1, h2, .inl rfl⟩
  ·exact ⟨a, cap, h1, h2, .inr ⟨b, 0, h3, hF b (by simp), zn2 b sz 0 xs F' (fun c hc => hF c (by simp [hc])) h5⟩⟩
 | .agg .., _, _, _, h | .ot .., _, _, _, h | .arr .., _, _, _, h | .ptr .., _, _, _, h | .eptr .., _, _, _, h | .ip .., _, _, _, h | .fn .., _, _, _, h | .tup .., _, _, _, h | .undef, _, _, _, h => by simp [RW] at h
theorem zn2 {w : World} {I : Nat → Prop} (b sz : Nat) : ∀ (o : Nat) (xs : List (List AV)) (F : List Nat), (∀ b ∈ F, I b) → RWe w b sz o xs F → RIe w I b sz o xs
 | o, [], F, _, h => by simp [RIe]
 | o, x :: xs, F, hF, h => by
  rw [RWe] at h
  rw [RIe]
  obtain ⟨F1, F2, rfl, h1, h2, h3⟩ := h
  exact ⟨h1, zx1 b o x F1 (fun c hc => hF c (by simp [hc])) h2, zn2 b sz (o + sz) xs F2 (fun c hc => hF c (by simp [hc])) h3⟩
theorem zx1 {w : World} {I : Nat → Prop} (b : Nat) : ∀ (o : Nat) (cs : List AV) (F : List Nat), (∀ b ∈ F, I b) → RWc w b o cs F → RIc w I b o cs
 | o, [], F, _, h => by simp [RIc]
 | o, c :: cs, F, hF, h => by
  rw [RWc] at h
  rw [RIc]
  obtain ⟨F1, F2, rfl, ⟨v, hv, h2⟩, h3⟩ := h
  exact ⟨⟨v, hv, RW_RI c v F1 (fun c hc => hF c (by simp [hc])) h2⟩, zx1 b (o + 1) cs F2 (fun c hc => hF c (by simp [hc])) h3⟩
end
theorem zx2 {w : World} : ∀ (ps : List (AV × Value)) (F : List Nat), RWs w ps F → ∀ p ∈ ps, ∃ F', (∀ b ∈ F', b ∈ F) ∧ RW w p.1 p.2 F'
 | [], _, _, p, hp => by simp at hp
 | q :: ps, F, ⟨F1, F2, hF, h1, h2⟩, p, hp => by
  subst hF
  rcases List.mem_cons.1 hp with rfl | hp
  ·exact ⟨F1, fun b hb => by simp [hb], h1⟩
  ·obtain ⟨F', h3, h4⟩ := zx2 ps F2 h2 p hp
   exact ⟨F', fun b hb => by simp [h3 b hb], h4⟩
def nuX (hs : List Nat) (i : Nat) : Option Nat := if i < 8 then none else hs[i - 8]?
def vwO (q : Bool) (hs : List Nat) (st : St) (n sz : Nat) (ys : List (List AV)) : Prop :=
 st.ob n = some (.shared sz ys) ∨ (q = true ∧ hs.contains n = false ∧ (st.ob n = some (.flat sz ys) ∨ st.ob n = some (.own sz ys) ∨ (st.ob n = some (.win sz ys) ∧ scR ys = true)))
def ax0 (q : Bool) (st : St) (hs Z : List Nat) : AV → AV → Prop
 | .arr n off len, .arr i off' len' => nuX hs i = some n ∧ off' = off ∧ len' = len
 | .eptr n i f, .eptr j i' f' => nuX hs j = some n ∧ i' = i ∧ f' = f
 | .ptr n off, .ptr i off' => nuX hs i = some n ∧ off' = off
 | .g v, .arr i off len => v = .slice none 0 0 ∧ off = 0 ∧ len = 0 ∧ ∃ n, nuX hs i = some n ∧ n ∈ Z
 | .arr n off len, .sl sz xs => ∃ ys, vwO q hs st n sz ys ∧ off + len ≤ ys.length ∧ xs = (ys.drop off).take len
 | .g v, .sl sz xs => (v = .slice none 0 0 ∧ xs = []) ∨ (q = true ∧ ∃ n ps, hs.contains n = false ∧ st.ob n = some (.park ps) ∧ (.sl sz xs, v) ∈ ps)
 | .g v, .g v' => v' = v
 | .s l, .s l' => l' = l
 | .sl sz xs, .sl sz' xs' => sz' = sz ∧ xs' = xs
 | .ip cs, .ip cs' => cs' = cs
 | _, .undef => True
 | _, _ => False
def ax0s (q : Bool) (st : St) (hs Z : List Nat) : List AV → List AV → Prop
 | [], l => l = []
 | a :: as, a' :: as' => ax0 q st hs Z a a' ∧ ax0s q st hs Z as as'
 | _ :: _, [] => False
def ax1 (q : Bool) (st : St) (hs Z : List Nat) : AV → AV → Prop
 | .fn f x y, .fn f' x' y' => f' = f ∧ ax0s q st hs Z x x' ∧ ax0s q st hs Z y y'
 | a, a' => ax0 q st hs Z a a'
def ax1s (q : Bool) (st : St) (hs Z : List Nat) : List AV → List AV → Prop
 | [], l => l = []
 | a :: as, a' :: as' => ax1 q st hs Z a a' ∧ ax1s q st hs Z as as'
 | _ :: _, [] => False
def ax2 (q : Bool) (st : St) (hs Z : List Nat) : AV → AV → Prop
 | .tup _, _ => False
 | .agg cs, .agg cs' => ax1s q st hs Z cs cs'
 | a, a' => ax1 q st hs Z a a'
def ax2s (q : Bool) (st : St) (hs Z : List Nat) : List AV → List AV → Prop
 | [], l => l = []
 | a :: as, a' :: as' => ax2 q st hs Z a a' ∧ ax2s q st hs Z as as'
 | _ :: _, [] => False
section ax
variable {st : St} {w : World} {I I2 : Nat → Prop} {β βc : Beta} {φ : Nat → List Nat} {q : Bool} {hs Z : List Nat}
 (hO : ∀ n o, st.ob n = some o → RO w I β n o (φ n)) (hI2 : ∀ b, I b → I2 b)
 (hV : q = true → ∀ n, hs.contains n = false → ∀ b ∈ φ n, I2 b)
 (hν : ∀ i n, nuX hs i = some n → ∀ bl, β n = some bl → βc i = some bl)
 (hZ : ∀ n ∈ Z, ∃ bl, β n = some bl ∧ bl.cap = 0)
include hO hI2 hV hν hZ
theorem zqo (av av' : AV) {x : Value} (h : ax0 q st hs Z av av') (hx : Rv0 w I β av x) : Rv0 w I2 βc av' x := by
 unfold ax0 at h
 split at h
 ·obtain ⟨h1, rfl, rfl⟩ := h
  obtain ⟨bl, hb, hr⟩ := hx
  exact ⟨bl, hν _ _ h1 bl hb, hr⟩
 ·obtain ⟨h1, rfl, rfl⟩ := h
  obtain ⟨bl, hb, hr⟩ := hx
  exact ⟨bl, hν _ _ h1 bl hb, hr⟩
 ·obtain ⟨h1, rfl⟩ := h
  obtain ⟨bl, hb, hr⟩ := hx
  exact ⟨bl, hν _ _ h1 bl hb, hr⟩
 ·obtain ⟨rfl, rfl, rfl, n, h1, h2⟩ := h
  obtain ⟨bl, h3, h4⟩ := hZ n h2
  cases hx
  exact ⟨bl, hν _ _ h1 bl h3, by omega, .inr ⟨by omega, none, rfl⟩⟩
 ·rename_i n off len sz xs
  obtain ⟨ys, hob, hle, rfl⟩ := h
  obtain ⟨bl, hb, hle2, hp⟩ := hx
  have hlen : ((ys.drop off).take len).length = len := by simp; omega
  have key : bl.sz = sz ∧ bl.o = 0 ∧ ys.length ≤ bl.cap ∧ (bl.cap = 0 ∨ (I2 bl.b ∧ RIe w I2 bl.b sz 0 ys)) := by
   rcases hob with hob | ⟨hq, hh, hob | hob | ⟨hob, hs⟩⟩
   ·obtain ⟨bl', hb', h1, h2, h3, -, h4⟩ := hO _ _ hob
    rw [hb] at hb'; cases hb'
    exact ⟨h1, h2, h3, h4.imp id fun h => ⟨hI2 _ h.1, zkt hI2 (fun _ _ => rfl) _ rfl _ _ _ h.2⟩⟩
   ·obtain ⟨bl', hb', h1, h2, h3, h4⟩ := hO _ _ hob
    rw [hb] at hb'; cases hb'
    exact ⟨h1, h2, h3, h4.imp (·.1) fun h => ⟨hV hq n hh _ (by rw [h.1]; simp), zkt hI2 (fun _ _ => rfl) _ rfl _ _ _ h.2.2⟩⟩
   ·obtain ⟨bl', hb', h1, h2, h3, -, h4⟩ := hO _ _ hob
    rw [hb] at hb'; cases hb'
    refine ⟨h1, h2, h3, ?_⟩
    rcases h4 with ⟨h4, -⟩ | ⟨F', h4, h5, h6⟩
    ·exact .inl h4
    ·have hF := hV hq n hh
     rw [h4] at hF
     exact .inr ⟨hF _ (by simp), zn2 _ _ _ _ _ (fun c hc => hF c (by simp [hc])) h6⟩
   ·obtain ⟨bl', hb', h1, h2, h3, h4⟩ := hO _ _ hob
    rw [hb] at hb'; cases hb'
    exact ⟨h1, h2, h3, h4.imp (·.1) fun h => ⟨hV hq n hh _ (by rw [h.1]; simp), zn2 _ _ _ _ _ (by simp) (zfk _ _ hs h.2.2)⟩⟩
  obtain ⟨h1, h2, h3, h4⟩ := key
  show RI w I2 _ _
  rw [RI, hlen]
  rcases hp with rfl | ⟨h5, a', rfl⟩
  ·refine ⟨_, _, rfl, by omega, ?_⟩
   rcases h4 with h4 | ⟨h4, h6⟩
   ·left; apply List.length_eq_zero_iff.1; omega
   ·refine .inr ⟨bl.b, _, rfl, h4, ?_⟩
    subst h1
    rw [h2]
    exact zd9 _ _ len (zgy _ _ off h6)
  ·have : len = 0 := by omega
   subst this
   exact ⟨_, _, rfl, Nat.le_refl _, .inl (by simp)⟩
 ·rename_i v sz xs
  cases hx
  rcases h with ⟨rfl, rfl⟩ | ⟨hq, n, ps, hh, hob, hm⟩
  ·show RI w I2 _ _
   rw [RI]
   exact ⟨none, 0, rfl, by simp, .inl rfl⟩
  ·obtain ⟨-, hp⟩ := hO _ _ hob
   obtain ⟨F', h1, h2⟩ := zx2 _ _ hp _ hm
   exact RW_RI _ _ F' (fun b hb => hV hq n hh b (h1 b hb)) h2
 ·subst h; exact hx
 ·subst h; exact hx
 ·obtain ⟨rfl, rfl⟩ := h; exact zdu hI2 (fun _ _ => rfl) _ _ hx
 ·subst h
  obtain ⟨b, o, h1, h2, h3⟩ := hx
  exact ⟨b, o, h1, hI2 b h2, zho hI2 (fun _ _ => rfl) b h2 o _ h3⟩
 ·trivial
 ·exact h.elim
theorem zjg : ∀ (l l' : List AV), ∀ {vs : List Value}, ax0s q st hs Z l l' → Rv0s w I β l vs → Rv0s w I2 βc l' vs
 | [], l', vs, h, hx => by cases h; exact hx
 | c :: cs, [], vs, h, hx => h.elim
 | c :: cs, c' :: cs', vs, h, hx => by
  obtain ⟨v, vs', rfl, h1, h2⟩ := hx
  exact ⟨v, vs', rfl, zqo hO hI2 hV hν hZ c c' h.1 h1, zjg cs cs' h.2 h2⟩
theorem zle (av av' : AV) {x : Value} (h : ax1 q st hs Z av av') (hx : Rv1 w I β av x) : Rv1 w I2 βc av' x := by
 by_cases hu : av' = .undef
 ·subst hu; trivial
 by_cases hf : ∃ f x y, av = .fn f x y
 ·obtain ⟨f, p, r, rfl⟩ := hf
  cases av' with
  | fn f' x' y' =>
   obtain ⟨rfl, h1, h2⟩ := h
   obtain ⟨vs, us, rfl, h3, h4⟩ := hx
   exact ⟨vs, us, rfl, zjg hO hI2 hV hν hZ _ _ h1 h3, zjg hO hI2 hV hν hZ _ _ h2 h4⟩
  | undef => trivial
  | _ => simp [ax1, ax0] at h
 ·have hx0 : Rv0 w I β av x := by cases av <;> first | exact hx | exact (hf ⟨_, _, _, rfl⟩).elim
  have hm : ax0 q st hs Z av av' := by cases av <;> first | exact (hf ⟨_, _, _, rfl⟩).elim | (cases av' <;> exact h)
  have := zqo hO hI2 hV hν hZ av av' hm hx0
  cases av' <;> first | exact this | exact this.elim
theorem zmw : ∀ (l l' : List AV), ∀ {vs : List Value}, ax1s q st hs Z l l' → Rv1s w I β l vs → Rv1s w I2 βc l' vs
 | [], l', vs, h, hx => by cases h; exact hx
 | c :: cs, [], vs, h, hx => h.elim
 | c :: cs, c' :: cs', vs, h, hx => by
  obtain ⟨v, vs', rfl, h1, h2⟩ := hx
  exact ⟨v, vs', rfl, zle hO hI2 hV hν hZ c c' h.1 h1, zmw cs cs' h.2 h2⟩
theorem zmx {b : Nat} : ∀ (l l' : List AV) (o : Nat), ax1s q st hs Z l l' → Rcs w I β b o l → Rcs w I2 βc b o l'
 | [], l', o, h, hx => by cases h; trivial
 | c :: cs, [], o, h, hx => h.elim
 | c :: cs, c' :: cs', o, h, hx => by
  obtain ⟨⟨v, hv, h1⟩, h2⟩ := hx
  exact ⟨⟨v, hv, zle hO hI2 hV hν hZ c c' h.1 h1⟩, zmx cs cs' (o + 1) h.2 h2⟩
theorem zlf (av av' : AV) {x : Value} (h : ax2 q st hs Z av av') (hx : Rv2 w I β av x) : Rv2 w I2 βc av' x := by
 by_cases hu : av' = .undef
 ·subst hu; trivial
 by_cases htup : ∃ cs, av = .tup cs
 ·obtain ⟨cs, rfl⟩ := htup; simp [ax2] at h
 by_cases hag : ∃ cs, av = .agg cs
 ·obtain ⟨cs, rfl⟩ := hag
  cases av' with
  | undef => trivial
  | agg cs' =>
   obtain ⟨vs, rfl, h1⟩ := hx
   exact ⟨vs, rfl, zmw hO hI2 hV hν hZ _ _ h h1⟩
  | _ => simp [ax2, ax1, ax0] at h
 ·have hne : ∀ cs, av ≠ .agg cs := fun cs e => hag ⟨cs, e⟩
  have hx1 : Rv1 w I β av x := by cases av <;> first | exact hx | exact (hne _ rfl).elim
  have hm1 : ax1 q st hs Z av av' := by cases av <;> first | exact (hne _ rfl).elim | exact (htup ⟨_, rfl⟩).elim | (cases av' <;> exact h)
  have := zle hO hI2 hV hν hZ av av' hm1 hx1
  cases av' with
  | agg cs' => exact this.elim
  | _ => exact this
theorem zg2 : ∀ (l l' : List AV), ∀ {vs : List Value}, ax2s q st hs Z l l' → Rv2s w I β l vs → Rv2s w I2 βc l' vs
 | [], l', vs, h, hx => by cases h; exact hx
 | c :: cs, [], vs, h, hx => h.elim
 | c :: cs, c' :: cs', vs, h, hx => by
  obtain ⟨v, vs', rfl, h1, h2⟩ := hx
  exact ⟨v, vs', rfl, zlf hO hI2 hV hν hZ c c' h.1 h1, zg2 cs cs' h.2 h2⟩
end ax
theorem zt0 {q : Bool} {st : St} {hs Z : List Nat} : ∀ (l l' : List AV), ax1s q st hs Z l l' → l'.length = l.length
 | [], l', h => by cases h; rfl
 | _ :: _, [], h => h.elim
 | _ :: cs, _ :: cs', h => by simp [zt0 cs cs' h.2]
theorem zg3 {q : Bool} {st : St} {hs Z : List Nat} : ∀ (l l' : List AV), ax2s q st hs Z l l' → ∀ x ∈ l, ∀ vs, x ≠ .tup vs
 | [], _, _, x, hx, _ => by simp at hx
 | _ :: _, [], h, _, _, _ => h.elim
 | c :: l, c' :: l', h, x, hx, vs => by
  rcases List.mem_cons.1 hx with rfl | hx
  ·rintro rfl
   have := h.1
   simp [ax2] at this
  ·exact zg3 l l' h.2 x hx vs
def axO (q : Bool) (st : St) (hs Z : List Nat) : OB → OB → Prop
 | .cells cs, .cells cs' => ax1s q st hs Z cs cs'
 | .own sz xs, .own sz' xs' => sz' = sz ∧ xs' = xs
 | .win sz xs, .own sz' xs' => sz' = sz ∧ xs' = xs ∧ scR xs = true
 | .flat sz xs, .own sz' xs' => sz' = sz ∧ xs' = xs ∧ scR xs = true
 | _, _ => False
def axOs (q : Bool) (st : St) (hs Z : List Nat) : List Nat → List OB → Prop
 | [], l => l = []
 | n :: ns, o' :: os => (∃ o, st.ob n = some o ∧ axO q st hs Z o o') ∧ axOs q st hs Z ns os
 | _ :: _, [] => False
theorem zn3 {q : Bool} {st : St} {hs Z : List Nat} : ∀ (ns : List Nat) (os : List OB), axOs q st hs Z ns os → ns.length = os.length ∧ ∀ (i : Nat) o', os[i]? = some o' → ∃ n o, ns[i]? = some n ∧ st.ob n = some o ∧ axO q st hs Z o o'
 | [], _, h => by cases h; simp
 | _ :: _, [], h => h.elim
 | n :: ns, o' :: os, h => by
  obtain ⟨h1, h2⟩ := zn3 ns os h.2
  refine ⟨by simp [h1], fun i p hp => ?_⟩
  cases i with
  | zero => simp at hp; subst hp; obtain ⟨o, h3, h4⟩ := h.1; exact ⟨n, o, rfl, h3, h4⟩
  | succ i => simpa using h2 i p (by simpa using hp)
end Go.Proofs.Ytmheohnbkaoipaa.Vs
end
section
namespace Go.Proofs.Ytmheohnbkaoipaa.Vs
set_option linter.all false
open Go.RowKit
variable {P : Program}
def zipO : List Nat → List OB → Ups
 | n :: ns, o :: os => (n, o) :: zipO ns os
 | _, _ => []
theorem zn4 : ∀ (ns : List Nat) (os : List OB) (ob : Nat → Option OB), ns.Nodup → ns.length = os.length → (∀ (i n : Nat) o, ns[i]? = some n → os[i]? = some o → updL ob (zipO ns os) n = some o) ∧ ∀ n, n ∉ ns → updL ob (zipO ns os) n = ob n
 | [], [], ob, _, _ => by simp [zipO, updL]
 | n :: ns, o :: os, ob, hnd, hl => by
  simp at hnd
  obtain ⟨h1, h2⟩ := zn4 ns os (upd ob n (some o)) hnd.2 (by simpa using hl)
  rw [zipO, zci]
  constructor
  ·intro i m c hm hc
   cases i with
   | zero =>
    simp at hm hc; subst hm; subst hc
    rw [h2 _ hnd.1, zbj]
   | succ i => exact h1 i m c (by simpa using hm) (by simpa using hc)
  ·intro m hm
   simp at hm
   rw [h2 m hm.2, zbg _ _ hm.1]
def rn0 (ρ : Nat → Nat) : AV → AV
 | .arr n o l => .arr (ρ n) o l
 | .ptr n o => .ptr (ρ n) o
 | .eptr n i f => .eptr (ρ n) i f
 | a => a
def rn2 (ρ : Nat → Nat) : AV → AV
 | .agg cs => .agg (cs.map (rn0 ρ))
 | a => rn0 ρ a
def rnT (ρ : Nat → Nat) : AV → AV
 | .tup vs => .tup (vs.map (rn2 ρ))
 | a => rn2 ρ a
def rnO (ρ : Nat → Nat) : OB → OB
 | .cells cs => .cells (cs.map (rn0 ρ))
 | o => o
def rk (q : Bool) : AV → Bool
 | .g _ => true
 | .s _ => true
 | .arr .. => true
 | .ptr .. => true
 | .eptr .. => true
 | .undef => true
 | .sl .. => !q
 | .ip _ => !q
 | _ => false
def rk2 (q : Bool) : AV → Bool
 | .agg cs => cs.all (rk q)
 | a => rk q a
def rkT (q : Bool) : AV → Bool
 | .tup vs => vs.all (rk2 q)
 | a => rk2 q a
def rkO (q : Bool) : OB → Bool
 | .cells cs => cs.all (rk q)
 | _ => true
section rn
variable {w : World} {I I' : Nat → Prop} {β β' : Beta} {q : Bool} {ρ : Nat → Nat} (hI : q = false → ∀ b, I b → I' b) (hβ : ∀ n bl, β n = some bl → β' (ρ n) = some bl)
include hI hβ
theorem zx3 (c : AV) (v : Value) (hk : rk q c = true) (h : Rv0 w I β c v) : Rv0 w I' β' (rn0 ρ c) v := by
 cases c with
 | g _ => exact h
 | s _ => exact h
 | arr n o l => obtain ⟨bl, h1, h2⟩ := h; exact ⟨bl, hβ _ _ h1, h2⟩
 | ptr n o => obtain ⟨bl, h1, h2⟩ := h; exact ⟨bl, hβ _ _ h1, h2⟩
 | eptr n i f => obtain ⟨bl, h1, h2⟩ := h; exact ⟨bl, hβ _ _ h1, h2⟩
 | undef => trivial
 | sl sz xs => exact zdu (hI (by simpa [rk] using hk)) (fun _ _ => rfl) _ _ h
 | ip cs =>
  have hi := hI (by simpa [rk] using hk)
  obtain ⟨b, o, h1, h2, h3⟩ := h
  exact ⟨b, o, h1, hi b h2, zho hi (fun _ _ => rfl) b h2 o _ h3⟩
 | _ => simp [rk] at hk
theorem zjh (c : AV) (v : Value) (hk : rk q c = true) (h : Rv1 w I β c v) : Rv1 w I' β' (rn0 ρ c) v := by
 have h0 : Rv0 w I β c v := by cases c <;> first | exact h | simp [rk] at hk
 have := zx3 hI hβ c v hk h0
 cases c <;> first | exact this | simp [rk] at hk
theorem zmy : ∀ (l : List AV) (vs : List Value), l.all (rk q) = true → Rv1s w I β l vs → Rv1s w I' β' (l.map (rn0 ρ)) vs
 | [], _, _, h => h
 | c :: cs, _, hk, ⟨v, vs', h1, h2, h3⟩ => by
  simp only [List.all_cons, Bool.and_eq_true] at hk
  exact ⟨v, vs', h1, zjh hI hβ c v hk.1 h2, zmy cs vs' hk.2 h3⟩
theorem zmz {b : Nat} : ∀ (l : List AV) (o : Nat), l.all (rk q) = true → Rcs w I β b o l → Rcs w I' β' b o (l.map (rn0 ρ))
 | [], _, _, _ => trivial
 | c :: cs, o, hk, ⟨⟨v, h1, h2⟩, h3⟩ => by
  simp only [List.all_cons, Bool.and_eq_true] at hk
  exact ⟨⟨v, h1, zjh hI hβ c v hk.1 h2⟩, zmz cs (o + 1) hk.2 h3⟩
theorem zqp (c : AV) (v : Value) (hk : rk2 q c = true) (h : Rv2 w I β c v) : Rv2 w I' β' (rn2 ρ c) v := by
 by_cases hag : ∃ cs, c = .agg cs
 ·obtain ⟨cs, rfl⟩ := hag
  obtain ⟨vs, h1, h2⟩ := h
  exact ⟨vs, h1, zmy hI hβ cs vs hk h2⟩
 ·have h1 : Rv1 w I β c v := by cases c <;> first | exact h | exact (hag ⟨_, rfl⟩).elim
  have hk1 : rk q c = true := by cases c <;> first | exact hk | exact (hag ⟨_, rfl⟩).elim
  have := zjh hI hβ c v hk1 h1
  cases c <;> first | exact this | exact (hag ⟨_, rfl⟩).elim | simp [rk] at hk1
theorem zm0 : ∀ (l : List AV) (vs : List Value), l.all (rk2 q) = true → Rv2s w I β l vs → Rv2s w I' β' (l.map (rn2 ρ)) vs
 | [], _, _, h => h
 | c :: cs, _, hk, ⟨v, vs', h1, h2, h3⟩ => by
  simp only [List.all_cons, Bool.and_eq_true] at hk
  exact ⟨v, vs', h1, zqp hI hβ c v hk.1 h2, zm0 cs vs' hk.2 h3⟩
theorem zx4 (c : AV) (v : Value) (hk : rkT q c = true) (h : Rv w I β c v) : Rv w I' β' (rnT ρ c) v := by
 by_cases ht : ∃ cs, c = .tup cs
 ·obtain ⟨cs, rfl⟩ := ht
  obtain ⟨vs, h1, h2⟩ := h
  exact ⟨vs, h1, zm0 hI hβ cs vs hk h2⟩
 ·have h1 : Rv2 w I β c v := zlc _ _ (fun vs e => ht ⟨vs, e⟩) h
  have hk1 : rk2 q c = true := by cases c <;> first | exact hk | exact (ht ⟨_, rfl⟩).elim
  have := zhp _ _ (zqp hI hβ c v hk1 h1)
  cases c <;> first | exact this | exact (ht ⟨_, rfl⟩).elim
theorem zqq {n : Nat} (o : OB) (F : List Nat) (hx : o.xk = true) (hk : rkO q o = true) (h : RO w I β n o F) : RO w I' β' (ρ n) (rnO ρ o) F := by
 cases o with
 | cells cs =>
  obtain ⟨bl, h1, h2, h3, h4⟩ := h
  exact ⟨bl, hβ _ _ h1, h2, by simpa using h3, zmz hI hβ cs _ hk h4⟩
 | own sz xs =>
  obtain ⟨bl, h1, h2⟩ := h
  exact ⟨bl, hβ _ _ h1, h2⟩
 | dead => exact h
 | _ => cases hx
end rn
def rhoX (hs : List Nat) (nm n : Nat) : Nat := if n < 16 then hs.getD (n - 8) 0 else nm + (n - 16)
def upsX (hs : List Nat) (nm : Nat) (wos' fos : List OB) : Ups := zipO hs (wos'.map (rnO (rhoX hs nm))) ++ zipO ((List.range fos.length).map (nm + ·)) (fos.map (rnO (rhoX hs nm)))
section
variable {C : Cx} {st : St} {a : Act} {w : World} {I : Nat → Prop} {β : Beta} {φ : Nat → List Nat}
theorem zx5 {q : Bool} {hs Z : List Nat} {I2 : Nat → Prop} {βc : Beta} (hC : Conc C st a w I β φ) (hI2 : ∀ b, I b → I2 b)
 (hV : q = true → ∀ n, hs.contains n = false → ∀ b ∈ φ n, I2 b)
 (hν : ∀ i n, nuX hs i = some n → ∀ bl, β n = some bl → βc i = some bl) (hZ : ∀ n ∈ Z, ∃ bl, β n = some bl ∧ bl.cap = 0) {n i : Nat} (hi : nuX hs i = some n) {o o' : OB} (ho : st.ob n = some o) (h : axO q st hs Z o o') : RO w I2 βc i o' (φ n) := by
 have hro := hC.ob n o ho
 cases o <;> cases o' <;> first | exact h.elim | skip
 ·obtain ⟨bl, h1, h2, h3, h4⟩ := hro
  exact ⟨bl, hν _ _ hi _ h1, h2, by rw [zt0 _ _ h]; exact h3, zmx hC.ob hI2 hV hν hZ _ _ _ h h4⟩
 ·obtain ⟨rfl, rfl, hs⟩ := h
  obtain ⟨bl, g1, g2, g3, g4, g5⟩ := hro
  exact ⟨bl, hν _ _ hi _ g1, g2, g3, g4, by rcases g5 with ⟨-, h⟩ | ⟨h, -⟩ <;> rw [h] <;> simp, g5.imp id fun g => ⟨[], g.1, g.2.1, zfk (I := I) (β := β) _ _ hs (zgb _ _ g.2.2)⟩⟩
 ·obtain ⟨rfl, rfl, hs⟩ := h
  obtain ⟨bl, g1, g2, g3, g4, g5⟩ := hro
  exact ⟨bl, hν _ _ hi _ g1, g2, g3, g4, by rcases g5 with ⟨-, h⟩ | ⟨h, -⟩ <;> rw [h] <;> simp, g5.imp id fun g => ⟨[], g.1, g.2.1, zfk (I := I) (β := β) _ _ hs g.2.2⟩⟩
 ·obtain ⟨rfl, rfl⟩ := h
  obtain ⟨bl, g1, g2⟩ := hro
  exact ⟨bl, hν _ _ hi _ g1, g2⟩
theorem zx6 {q : Bool} {hs Z : List Nat} (hC : Conc C st a w I β φ) {n : Nat} {o o' : OB} (ho : st.ob n = some o) (h : axO q st hs Z o o') : ∀ b ∈ φ n, ¬ C.Y b := by
 intro b hb
 cases o with
 | flat sz xs => intro hy; have := hC.fnew n _ _ ho b hb; have := hC.ylt b hy; omega
 | cells _ => exact hC.wok n _ ho rfl b hb
 | own _ _ => exact hC.wok n _ ho rfl b hb
 | win _ _ => exact hC.wok n _ ho rfl b hb
 | _ => cases o' <;> exact h.elim
theorem zjs (hC : Conc C st a w I β φ) {f : FuncId} {actual args : List AV} {wos : List OB} {nf : Nat} {Po : AV → List OB → List OB → Prop} {hs Z : List Nat} {nm : Nat} {q : Bool} {vs : List Value} (hZ : ∀ n ∈ Z, ∃ bl, β n = some bl ∧ bl.cap = 0) (hvs : Rv2s w I β actual vs) (hX : XCallE P f args wos nf Po)
 (hnd : (hs ++ (List.range nf).map (nm + ·)).Nodup) (hargs : ax2s q st hs Z actual args) (hobj : axOs q st hs Z hs wos) (hnm : ∀ k, k < nf → st.ob (nm + k) = none) (hrr : ∀ r wos' fos, Po r wos' fos → rkT q r = true ∧ (wos' ++ fos).all (rkO q) = true) :
 Calls P f ⟨vs⟩ w fun e w' => ∃ r wos' fos, Po r wos' fos ∧ ∃ y I' β' φ', e = .returned y ∧ Rv w' I' β' (rnT (rhoX hs nm) r) y ∧ Conc C { st with ob := updL st.ob (upsX hs nm wos' fos) } a w' I' β' φ' := by
 obtain ⟨-, hw8, hcall⟩ := hX
 obtain ⟨hhl, hget⟩ := zn3 _ _ hobj
 obtain ⟨hnd1, hnd2, hnd3⟩ := List.nodup_append.1 hnd
 -- the callee's view
 let I2 : Nat → Prop := fun b => I b ∨ (q = true ∧ ∃ n, hs.contains n = false ∧ b ∈ φ n)
 let βc : Beta := fun i => (nuX hs i).bind β
 let χ : Nat → List Nat := fun i => match nuX hs i with | some n => φ n | none => []
 have hI2 : ∀ b, I b → I2 b := fun b h => .inl h
 have hV : q = true → ∀ n, hs.contains n = false → ∀ b ∈ φ n, I2 b := fun hq n hn b hb => .inr ⟨hq, n, hn, hb⟩
 have hν : ∀ i n, nuX hs i = some n → ∀ bl, β n = some bl → βc i = some bl := by
  intro i n hi bl hb
  show (nuX hs i).bind β = _
  rw [hi]; exact hb
 have hχ : ∀ i b, b ∈ χ i → ∃ n, nuX hs i = some n ∧ b ∈ φ n := by
  intro i b hb
  simp only [χ] at hb
  split at hb
  ·rename_i n hn; exact ⟨n, hn, hb⟩
  ·simp at hb
 have hχ' : ∀ i n, nuX hs i = some n → χ i = φ n := by
  intro i n hi
  simp only [χ, hi]
 have hnu : ∀ i n, nuX hs i = some n → n ∈ hs := by
  intro i n hi
  unfold nuX at hi
  split at hi
  ·cases hi
  ·exact List.mem_of_getElem? hi
 have hnui : ∀ i n, nuX hs i = some n → 8 ≤ i ∧ i - 8 < hs.length ∧ hs[i - 8]? = some n := by
  intro i n hi
  unfold nuX at hi
  split at hi
  ·cases hi
  ·exact ⟨by omega, (List.getElem?_eq_some_iff.1 hi).1, hi⟩
 have hinj : ∀ i j n, nuX hs i = some n → nuX hs j = some n → i = j := by
  intro i j n hi hj
  obtain ⟨h1, h2, h3⟩ := hnui i n hi
  obtain ⟨g1, g2, g3⟩ := hnui j n hj
  obtain ⟨p1, p2⟩ := List.getElem?_eq_some_iff.1 h3
  obtain ⟨q1, q2⟩ := List.getElem?_eq_some_iff.1 g3
  have := (List.getElem_inj hnd1).1 (p2.trans q2.symm)
  omega
 have hpost0 : ∀ n o, postOb wos [] n = some o → 8 ≤ n ∧ n < 16 ∧ wos[n - 8]? = some o := by
  intro n o h
  unfold postOb at h
  split at h
  ·split at h
   ·cases h
   ·exact ⟨by omega, by omega, h⟩
  ·simp at h
 have hpost0n : ∀ n, postOb wos [] n = none → nuX hs n = none := by
  intro n h
  unfold postOb at h
  unfold nuX
  split at h
  ·split at h
   ·rw [if_pos (by assumption)]
   ·rw [if_neg (by omega)]
    rw [List.getElem?_eq_none_iff] at h ⊢
    omega
  ·rw [if_neg (by omega), List.getElem?_eq_none_iff]
   omega
 have hhand : ∀ n o, postOb wos [] n = some o → ∃ m p, nuX hs n = some m ∧ st.ob m = some p ∧ axO q st hs Z p o := by
  intro n o h
  obtain ⟨h1, h2, h3⟩ := hpost0 n o h
  obtain ⟨m, p, g1, g2, g3⟩ := hget _ _ h3
  exact ⟨m, p, by unfold nuX; rw [if_neg (by omega)]; exact g1, g2, g3⟩
 have hall : ∀ m, m ∈ hs → ∃ i p o, nuX hs i = some m ∧ i < 16 ∧ st.ob m = some p ∧ axO q st hs Z p o := by
  intro m hm
  obtain ⟨i, hi⟩ := List.getElem?_of_mem hm
  have hlt : i < wos.length := by rw [← hhl]; exact (List.getElem?_eq_some_iff.1 hi).1
  obtain ⟨m', p, g1, g2, g3⟩ := hget i _ (List.getElem?_eq_getElem hlt)
  rw [hi] at g1; cases g1
  exact ⟨8 + i, p, _, by unfold nuX; rw [if_neg (by omega), show 8 + i - 8 = i by omega]; exact hi, by omega, g2, g3⟩
 have hc := hcall w I2 βc χ vs (by
  rintro b (h | ⟨-, n, -, h⟩)
  ·exact hC.immLt b h
  ·exact (hC.flt n b h).1) (zg2 hC.ob hI2 hV hν hZ _ _ hargs hvs) (fun n hn => by
  have := hpost0n n hn
  simp [βc, χ, this]) (fun n o ho => by
  obtain ⟨m, p, h1, h2, h3⟩ := hhand n o ho
  rw [hχ' n m h1]
  exact zx5 hC hI2 hV hν hZ h1 h2 h3) (fun n m hnm b hb hb' => by
  obtain ⟨k, h1, h2⟩ := hχ n b hb
  obtain ⟨l, h3, h4⟩ := hχ m b hb'
  exact hC.sep k l (by rintro rfl; exact hnm (hinj n m k h1 h3)) b h2 h4) (fun n b hb => by
  obtain ⟨k, h1, h2⟩ := hχ n b hb
  refine ⟨?_, (hC.flt k b h2).1⟩
  rintro (h | ⟨-, l, h3, h4⟩)
  ·exact hC.nimm k b h2 h
  ·have hkl : k ≠ l := by
    rintro rfl
    have := hnu n k h1
    simp [this] at h3
   exact hC.sep k l hkl b h2 h4)
 refine hc.mono ?_
 rintro e w' ⟨r, wos', fos, hPo, hwl, hfl, hxk, y, I', β', χ', rfl, hev, hII, hIn, hy, hβ, hpn, hpo, hsep, hχn⟩
 subst hfl
 obtain ⟨hr, hro⟩ := hrr _ _ _ hPo
 refine ⟨r, wos', fos, hPo, ?_⟩
 -- what is immutable behind the call
 obtain ⟨Ia, hIa1, hIa2, hIa3, hIa4⟩ : ∃ Ia : Nat → Prop, (∀ b, I b → Ia b) ∧ (∀ b, Ia b → I' b) ∧ (q = false → ∀ b, I' b → Ia b) ∧ (∀ b, Ia b → I b ∨ (w.heap.size ≤ b ∧ b < w'.heap.size)) := by
  cases q with
  | true => exact ⟨I, fun _ h => h, fun b h => hII b (hI2 b h), by simp, fun _ h => .inl h⟩
  | false =>
   refine ⟨I', fun b h => hII b (hI2 b h), fun _ h => h, fun _ _ h => h, fun b h => ?_⟩
   rcases hIn b h with (h | ⟨h, -⟩) | h
   ·exact .inl h
   ·cases h
   ·exact .inr h
 let ρ := rhoX hs nm
 let βn : Beta := fun m => if nm ≤ m ∧ m < nm + fos.length then β' (16 + (m - nm)) else β m
 let φn : Nat → List Nat := fun m => if m ∈ hs then χ' (8 + hs.idxOf m) else if nm ≤ m ∧ m < nm + fos.length then χ' (16 + (m - nm)) else φ m
 have hfresh : ∀ m, nm ≤ m → m < nm + fos.length → st.ob m = none := fun m h1 h2 => by
  have := hnm (m - nm) (by omega)
  rwa [show nm + (m - nm) = m by omega] at this
 have hhs : ∀ m, m ∈ hs → ¬ (nm ≤ m ∧ m < nm + fos.length) := by
  rintro m hm ⟨h1, h2⟩
  obtain ⟨i, p, o, -, -, h3, -⟩ := hall m hm
  rw [hfresh m h1 h2] at h3; cases h3
 have hrange : ∀ m, m ∈ (List.range fos.length).map (nm + ·) ↔ nm ≤ m ∧ m < nm + fos.length := by
  intro m
  simp only [List.mem_map, List.mem_range]
  constructor
  ·rintro ⟨k, h1, rfl⟩; omega
  ·rintro ⟨h1, h2⟩; exact ⟨m - nm, by omega, by omega⟩
 obtain ⟨za1, za2⟩ := zn4 hs (wos'.map (rnO ρ)) st.ob hnd1 (by simp [hhl, hwl])
 obtain ⟨zb1, zb2⟩ := zn4 ((List.range fos.length).map (nm + ·)) (fos.map (rnO ρ)) (updL st.ob (zipO hs (wos'.map (rnO ρ)))) hnd2 (by simp)
 have hobE : ∀ m, updL st.ob (upsX hs nm wos' fos) m = updL (updL st.ob (zipO hs (wos'.map (rnO ρ)))) (zipO ((List.range fos.length).map (nm + ·)) (fos.map (rnO ρ))) m := fun m => by
  unfold upsX; rw [zdd]
 have hcase : ∀ m, (∃ (i : Nat) (p o : OB), hs[i]? = some m ∧ nuX hs (8 + i) = some m ∧ wos'[i]? = some o ∧ i < 8 ∧ updL st.ob (upsX hs nm wos' fos) m = some (rnO ρ o) ∧ φn m = χ' (8 + i) ∧ st.ob m = some p ∧ (∃ o0, axO q st hs Z p o0) ∧ βn m = β m) ∨
  (∃ (k : Nat) (o : OB), k < fos.length ∧ m = nm + k ∧ fos[k]? = some o ∧ updL st.ob (upsX hs nm wos' fos) m = some (rnO ρ o) ∧ φn m = χ' (16 + k) ∧ βn m = β' (16 + k) ∧ m ∉ hs) ∨
  (m ∉ hs ∧ ¬ (nm ≤ m ∧ m < nm + fos.length) ∧ updL st.ob (upsX hs nm wos' fos) m = st.ob m ∧ φn m = φ m ∧ βn m = β m) := by
  intro m
  by_cases hm : m ∈ hs
  ·obtain ⟨i, hi⟩ := List.getElem?_of_mem hm
   obtain ⟨hil, hie⟩ := List.getElem?_eq_some_iff.1 hi
   obtain ⟨j, p, o0, g1, -, g3, g4⟩ := hall m hm
   have hiw : i < wos'.length := by omega
   refine .inl ⟨i, p, wos'[i], hi, by unfold nuX; rw [if_neg (by omega), show 8 + i - 8 = i by omega]; exact hi, List.getElem?_eq_getElem hiw, by omega, ?_, ?_, g3, ⟨o0, g4⟩, ?_⟩
   ·rw [hobE, zb2 m (fun h => hhs m hm ((hrange m).1 h))]
    exact za1 i m _ hi (by simp [List.getElem?_map, List.getElem?_eq_getElem hiw])
   ·have : hs.idxOf m = i := by rw [← hie]; exact hnd1.idxOf_getElem i hil
    show (if m ∈ hs then χ' (8 + hs.idxOf m) else _) = _
    rw [if_pos hm, this]
   ·show (if nm ≤ m ∧ m < nm + fos.length then _ else β m) = _
    rw [if_neg (hhs m hm)]
  ·by_cases hr : nm ≤ m ∧ m < nm + fos.length
   ·have hk : m - nm < fos.length := by omega
    refine .inr (.inl ⟨m - nm, fos[m - nm], hk, by omega, List.getElem?_eq_getElem hk, ?_, ?_, ?_, hm⟩)
    ·rw [hobE]
     exact zb1 (m - nm) m _ (by simp [List.getElem?_map, List.getElem?_range hk]; omega) (by simp [List.getElem?_map, List.getElem?_eq_getElem hk])
    ·show (if m ∈ hs then _ else if nm ≤ m ∧ m < nm + fos.length then χ' (16 + (m - nm)) else φ m) = _
     rw [if_neg hm, if_pos hr]
    ·show (if nm ≤ m ∧ m < nm + fos.length then β' (16 + (m - nm)) else β m) = _
     rw [if_pos hr]
   ·refine .inr (.inr ⟨hm, hr, ?_, ?_, ?_⟩)
    ·rw [hobE, zb2 m (fun h => hr ((hrange m).1 h)), za2 m hm]
    ·show (if m ∈ hs then _ else if nm ≤ m ∧ m < nm + fos.length then χ' (16 + (m - nm)) else φ m) = _
     rw [if_neg hm, if_neg hr]
    ·show (if nm ≤ m ∧ m < nm + fos.length then β' (16 + (m - nm)) else β m) = _
     rw [if_neg hr]
 have hpw : ∀ (i : Nat) o, i < 8 → wos'[i]? = some o → postOb wos' fos (8 + i) = some o := fun i o h1 h2 => by
  unfold postOb; rw [if_pos (by omega), if_neg (by omega), show 8 + i - 8 = i by omega]; exact h2
 have hpf : ∀ (k : Nat) o, fos[k]? = some o → postOb wos' fos (16 + k) = some o := fun k o h2 => by
  unfold postOb; rw [if_neg (by omega), show 16 + k - 16 = k by omega]; exact h2
 have hρβ : ∀ n bl, β' n = some bl → βn (ρ n) = some bl := by
  intro n bl hb
  by_cases h16 : n < 16
  ·cases hp : postOb wos' fos n with
   | none => rw [(hpn n hp).1] at hb; cases hb
   | some o =>
    have hp2 := hp
    unfold postOb at hp2
    rw [if_pos h16] at hp2
    split at hp2
    ·cases hp2
    ·rename_i h8
     have hil : n - 8 < hs.length := by have := (List.getElem?_eq_some_iff.1 hp2).1; omega
     have hρn : ρ n = hs[n - 8] := by
      show rhoX hs nm n = _
      unfold rhoX; rw [if_pos h16, List.getD_eq_getElem?_getD, List.getElem?_eq_getElem hil]; rfl
     have hm : hs[n - 8] ∈ hs := List.getElem_mem hil
     have hnn : nuX hs n = some hs[n - 8] := by unfold nuX; rw [if_neg h8, List.getElem?_eq_getElem hil]
     have hβm : βn hs[n - 8] = β hs[n - 8] := by
      show (if nm ≤ hs[n - 8] ∧ hs[n - 8] < nm + fos.length then _ else β hs[n - 8]) = _
      rw [if_neg (hhs _ hm)]
     obtain ⟨j, p, o0, g1, -, g3, g4⟩ := hall _ hm
     have hbl : ∃ bl0, β hs[n - 8] = some bl0 := by
      have := hC.ob _ _ g3
      cases p with
      | cells cs => obtain ⟨bl0, h, -⟩ := this; exact ⟨bl0, h⟩
      | own _ _ => obtain ⟨bl0, h, -⟩ := this; exact ⟨bl0, h⟩
      | win _ _ => obtain ⟨bl0, h, -⟩ := this; exact ⟨bl0, h⟩
      | flat _ _ => obtain ⟨bl0, h, -⟩ := this; exact ⟨bl0, h⟩
      | _ => cases o0 <;> exact g4.elim
     obtain ⟨bl0, hbl⟩ := hbl
     have := hβ n bl0 (hν n _ hnn bl0 hbl)
     rw [hb] at this; cases this
     rw [hρn, hβm]; exact hbl
  ·have : ρ n = nm + (n - 16) := by show rhoX hs nm n = _; unfold rhoX; rw [if_neg h16]
   rw [this]
   cases hp : postOb wos' fos n with
   | none => rw [(hpn n hp).1] at hb; cases hb
   | some o =>
    unfold postOb at hp
    rw [if_neg h16] at hp
    have := (List.getElem?_eq_some_iff.1 hp).1
    show (if nm ≤ nm + (n - 16) ∧ nm + (n - 16) < nm + fos.length then β' (16 + (nm + (n - 16) - nm)) else _) = _
    rw [if_pos (by omega), show 16 + (nm + (n - 16) - nm) = n by omega]; exact hb
 have hxkw : ∀ (i : Nat) o, wos'[i]? = some o → o.xk = true ∧ rkO q o = true := fun i o h => by
  have hm : o ∈ wos' ++ fos := List.mem_append.2 (.inl (List.mem_of_getElem? h))
  exact ⟨List.all_eq_true.1 hxk o hm, List.all_eq_true.1 hro o hm⟩
 have hxkf : ∀ (i : Nat) o, fos[i]? = some o → o.xk = true ∧ rkO q o = true := fun i o h => by
  have hm : o ∈ wos' ++ fos := List.mem_append.2 (.inr (List.mem_of_getElem? h))
  exact ⟨List.all_eq_true.1 hxk o hm, List.all_eq_true.1 hro o hm⟩
 have hnoflat : ∀ o : OB, o.xk = true → ∀ sz xs, rnO ρ o ≠ .flat sz xs := by
  intro o h sz xs e
  cases o with
  | cells _ => cases e
  | own _ _ => cases e
  | dead => cases e
  | _ => cases h
 have hev' : Evo (fun b => ∃ n, n ∈ hs ∧ b ∈ φ n) w w' := hev.mono fun b _ ⟨n, hb⟩ => by
  obtain ⟨m, h1, h2⟩ := hχ n b hb
  exact ⟨m, hnu n m h1, h2⟩
 have hor : ∀ n b, b ∈ χ' n → b < w'.heap.size ∧ (C.X b ∨ C.Y b ∨ C.w0.heap.size ≤ b) ∧ ¬ C.Y b ∧ ¬ Ia b := by
  intro n b hb
  obtain ⟨h1, h2, h3⟩ := hχn n b hb
  refine ⟨h2, ?_, ?_, fun h => h1 (hIa2 b h)⟩
  ·rcases h3 with ⟨m, hm⟩ | h3
   ·obtain ⟨k, -, g2⟩ := hχ m b hm; exact (hC.flt k b g2).2
   ·exact .inr (.inr (Nat.le_trans hC.evo.size h3))
  ·rcases h3 with ⟨m, hm⟩ | h3
   ·obtain ⟨k, g1, g2⟩ := hχ m b hm
    obtain ⟨i, p, o, -, -, g4, g5⟩ := hall k (hnu m k g1)
    exact zx6 hC g4 g5 b g2
   ·intro hy
    have := hC.ylt b hy
    have := hC.evo.size
    omega
 refine ⟨y, Ia, βn, φn, rfl, zx4 (q := q) (fun hq b hb => hIa3 hq b hb) hρβ r y hr hy, ?_⟩
 refine hC.move (fun b => ∃ n, n ∈ hs ∧ b ∈ φ n) hev' ?_ hIa1 (fun b h => (hIa4 b h).imp id .inl) ?_ ?_ ?_ ?_ ?_ ?_ ?_ ?_ ?_
 ·rintro b ⟨n, h1, h2⟩
  obtain ⟨i, p, o, -, -, g4, g5⟩ := hall n h1
  exact ⟨n, h2, zx6 hC g4 g5 b h2⟩
 ·intro n bl hb
  rcases hcase n with ⟨i, p, o, -, -, -, -, -, -, -, -, h⟩ | ⟨k, o, h1, h2, -, -, -, -, -⟩ | ⟨-, -, -, -, h⟩
  ·rw [h]; exact hb
  ·rw [hC.dom n (hfresh n (by omega) (by omega))] at hb; cases hb
  ·rw [h]; exact hb
 ·intro n o ho
  rcases hcase n with ⟨i, p, o', h1, h2, h3, h4, h5, h6, -, -, -⟩ | ⟨k, o', h1, h2, h3, h5, h6, -, -⟩ | ⟨h1, -, h2, h3, -⟩
  ·rw [h5] at ho; cases ho
   rw [h6]
   have h7 := zqq (q := q) (fun hq b hb => hIa3 hq b hb) hρβ (n := 8 + i) o' (χ' (8 + i)) (hxkw i o' h3).1 (hxkw i o' h3).2 (hpo _ _ (hpw i o' h4 h3))
   have h8 : ρ (8 + i) = n := by
    show rhoX hs nm (8 + i) = _
    unfold rhoX; rw [if_pos (by omega), show 8 + i - 8 = i by omega, List.getD_eq_getElem?_getD, h1]; rfl
   rw [h8] at h7
   exact .inr h7
  ·rw [h5] at ho; cases ho
   rw [h6]
   have h7 := zqq (q := q) (fun hq b hb => hIa3 hq b hb) hρβ (n := 16 + k) o' (χ' (16 + k)) (hxkf k o' h3).1 (hxkf k o' h3).2 (hpo _ _ (hpf k o' h3))
   have h8 : ρ (16 + k) = n := by
    show rhoX hs nm (16 + k) = _
    unfold rhoX; rw [if_neg (by omega), h2]; omega
   rw [h8] at h7
   exact .inr h7
  ·rw [h2] at ho
   refine .inl ⟨ho, h3, ?_⟩
   rintro b hb ⟨m, hm, hb'⟩
   exact hC.sep n m (by rintro rfl; exact h1 hm) b hb hb'
 ·intro n hn
  rcases hcase n with ⟨i, p, o', h1, h2, h3, h4, h5, h6, -, -, -⟩ | ⟨k, o', h1, h2, h3, h5, h6, -, -⟩ | ⟨h1, -, h2, h3, h4⟩
  ·rw [h5] at hn; cases hn
  ·rw [h5] at hn; cases hn
  ·rw [h4]; rw [h2] at hn; exact hC.dom n hn
 ·intro n hn
  rcases hcase n with ⟨i, p, o', h1, h2, h3, h4, h5, h6, -, -, -⟩ | ⟨k, o', h1, h2, h3, h5, h6, -, -⟩ | ⟨h1, -, h2, h3, h4⟩
  ·rw [h5] at hn; cases hn
  ·rw [h5] at hn; cases hn
  ·rw [h3]; rw [h2] at hn; exact hC.fdom n hn
 · -- apart
  have hout : ∀ (j n : Nat) b, n ∉ hs → b ∈ χ' j → b ∈ φ n → False := by
   intro j n b h1 h2 h3
   rcases (hχn j b h2).2.2 with ⟨m, hm⟩ | h4
   ·obtain ⟨k, g1, g2⟩ := hχ m b hm
    exact hC.sep n k (by rintro rfl; exact h1 (hnu m _ g1)) b h3 g2
   ·have := (hC.flt n b h3).1; omega
  have hkey : ∀ n, (∃ j, φn n = χ' j ∧ ρ j = n) ∨ (n ∉ hs ∧ φn n = φ n) := by
   intro n
   rcases hcase n with ⟨i, p, o', h1, h2, h3, h4, h5, h6, -, -, -⟩ | ⟨k, o', h1, h2, h3, h5, h6, -, -⟩ | ⟨h1, -, h2, h3, -⟩
   ·refine .inl ⟨8 + i, h6, ?_⟩
    show rhoX hs nm (8 + i) = _
    unfold rhoX; rw [if_pos (by omega), show 8 + i - 8 = i by omega, List.getD_eq_getElem?_getD, h1]; rfl
   ·refine .inl ⟨16 + k, h6, ?_⟩
    show rhoX hs nm (16 + k) = _
    unfold rhoX; rw [if_neg (by omega), h2]; omega
   ·exact .inr ⟨h1, h3⟩
  intro n m hnm b hb hb'
  rcases hkey n with ⟨i, h1, h2⟩ | ⟨h1, h2⟩
  ·rcases hkey m with ⟨j, h3, h4⟩ | ⟨h3, h4⟩
   ·rw [h1] at hb; rw [h3] at hb'
    exact hsep i j (by rintro rfl; exact hnm (h2.symm.trans h4)) b hb hb'
   ·rw [h1] at hb; rw [h4] at hb'
    exact hout i m b h3 hb hb'
  ·rcases hkey m with ⟨j, h3, h4⟩ | ⟨h3, h4⟩
   ·rw [h2] at hb; rw [h3] at hb'
    exact hout j n b h1 hb' hb
   ·rw [h2] at hb; rw [h4] at hb'
    exact hC.sep n m hnm b hb hb'
 ·intro n b hb hi
  rcases hcase n with ⟨i, p, o', h1, h2, h3, h4, h5, h6, -, -, -⟩ | ⟨k, o', h1, h2, h3, h5, h6, -, -⟩ | ⟨h1, -, h2, h3, -⟩
  ·rw [h6] at hb; exact (hor _ b hb).2.2.2 hi
  ·rw [h6] at hb; exact (hor _ b hb).2.2.2 hi
  ·rw [h3] at hb
   rcases hIa4 b hi with h | h
   ·exact hC.nimm n b hb h
   ·have := (hC.flt n b hb).1; omega
 ·intro n b hb
  rcases hcase n with ⟨i, p, o', h1, h2, h3, h4, h5, h6, -, -, -⟩ | ⟨k, o', h1, h2, h3, h5, h6, -, -⟩ | ⟨h1, -, h2, h3, -⟩
  ·rw [h6] at hb; exact ⟨(hor _ b hb).1, (hor _ b hb).2.1⟩
  ·rw [h6] at hb; exact ⟨(hor _ b hb).1, (hor _ b hb).2.1⟩
  ·rw [h3] at hb
   exact ⟨Nat.lt_of_lt_of_le (hC.flt n b hb).1 hev.size, (hC.flt n b hb).2⟩
 ·intro n o ho hwr b hb
  rcases hcase n with ⟨i, p, o', h1, h2, h3, h4, h5, h6, -, -, -⟩ | ⟨k, o', h1, h2, h3, h5, h6, -, -⟩ | ⟨h1, -, h2, h3, -⟩
  ·rw [h6] at hb; exact (hor _ b hb).2.2.1
  ·rw [h6] at hb; exact (hor _ b hb).2.2.1
  ·rw [h2] at ho; rw [h3] at hb
   exact hC.wok n o ho hwr b hb
 ·intro n sz xs ho b hb
  rcases hcase n with ⟨i, p, o', h1, h2, h3, h4, h5, h6, -, -, -⟩ | ⟨k, o', h1, h2, h3, h5, h6, -, -⟩ | ⟨h1, -, h2, h3, -⟩
  ·rw [h5] at ho
   exact (hnoflat o' (hxkw i o' h3).1 sz xs (Option.some.inj ho)).elim
  ·rw [h5] at ho
   exact (hnoflat o' (hxkf k o' h3).1 sz xs (Option.some.inj ho)).elim
  ·rw [h2] at ho; rw [h3] at hb
   exact hC.fnew n sz xs ho b hb
theorem zse (hC : Conc C st a w I β φ) {f : FuncId} {actual args : List AV} {wos wos' fos : List OB} {r : AV} {hs Z : List Nat} {nm : Nat} {q : Bool} {vs : List Value} (hZ : ∀ n ∈ Z, ∃ bl, β n = some bl ∧ bl.cap = 0) (hvs : Rv2s w I β actual vs) (hX : XCall P f args wos r wos' fos)
 (hnd : (hs ++ (List.range fos.length).map (nm + ·)).Nodup) (hargs : ax2s q st hs Z actual args) (hobj : axOs q st hs Z hs wos) (hnm : ∀ k, k < fos.length → st.ob (nm + k) = none) (hr : rkT q r = true) (hro : (wos' ++ fos).all (rkO q) = true) :
 Calls P f ⟨vs⟩ w fun e w' => ∃ y I' β' φ', e = .returned y ∧ Rv w' I' β' (rnT (rhoX hs nm) r) y ∧ Conc C { st with ob := updL st.ob (upsX hs nm wos' fos) } a w' I' β' φ' := by
 refine (zjs hC hZ hvs (zx0 hX (Po := fun r' w' f' => r' = r ∧ w' = wos' ∧ f' = fos) ⟨rfl, rfl, rfl⟩) hnd hargs hobj hnm ?_).mono ?_
 ·rintro r' w' f' ⟨rfl, rfl, rfl⟩; exact ⟨hr, hro⟩
 ·rintro e w' ⟨r', w'', f', ⟨rfl, rfl, rfl⟩, h⟩; exact h
end
end Go.Proofs.Ytmheohnbkaoipaa.Vs
end

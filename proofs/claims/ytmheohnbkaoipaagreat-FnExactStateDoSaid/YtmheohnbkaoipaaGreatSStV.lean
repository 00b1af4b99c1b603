import Derived.Test.YtmheohnbkaoipaaGreatSXQ
import Derived.Test.YtmheohnbkaoipaaGreatSCpQ
open Go Go.Proofs Go.Proofs.YtmheohnbkaoipaaGreat.Vs
namespace Go.Proofs.YtmheohnbkaoipaaGreat.Vs
set_option linter.all false
set_option linter.unusedSimpArgs false
set_option linter.unusedVariables false
/-! what a command does to a state -/
def bOld : List UInt8 := [111, 108, 100]
noncomputable def saidI (s : DtState) (m : DtCmd) : Int := idxZ (fun x : DtSaid => decide (m.fClient ≤ x.fClient)) s.fSaid
def newS (m : DtCmd) (t : List UInt8) : DtSaid := { fClient := m.fClient, fNo := m.fNo, fText := t }
def putL (x : DtSaid) : List DtSaid → List DtSaid
 | [] => [x]
 | y :: l => if y.fClient < x.fClient then y :: putL x l else if y.fClient = x.fClient then x :: l else x :: y :: l
theorem zvr (x : DtSaid) : ∀ l : List DtSaid, (∀ j (h : j < l.length), l[j].fClient < x.fClient) → putL x l = l ++ [x]
 | [], _ => rfl
 | y :: l, h => by
  have h0 := h 0 (by simp)
  simp only [List.getElem_cons_zero] at h0
  rw [putL, if_pos h0, zvr x l fun j hj => h (j + 1) (by simpa using hj)]; rfl
theorem zvs (x : DtSaid) : ∀ (l : List DtSaid) (k : Nat) (hk : k < l.length), (∀ j (h : j < l.length), j < k → l[j].fClient < x.fClient) → l[k].fClient = x.fClient → putL x l = l.set k x
 | [], k, hk, _, _ => by simp at hk
 | y :: l, 0, _, _, h => by
  simp only [List.getElem_cons_zero] at h
  rw [putL, if_neg (by omega), if_pos h]; rfl
 | y :: l, k + 1, hk, h, h2 => by
  have h0 := h 0 (by simp) (by omega)
  simp only [List.getElem_cons_zero] at h0
  rw [putL, if_pos h0, zvs x l k (by simpa using hk) (fun j hj hjk => h (j + 1) (by simpa using hj) (by omega)) h2]; rfl
theorem zvt (x : DtSaid) : ∀ (l : List DtSaid) (k : Nat) (hk : k < l.length), (∀ j (h : j < l.length), j < k → l[j].fClient < x.fClient) → x.fClient < l[k].fClient → putL x l = l.take k ++ x :: l.drop k
 | [], k, hk, _, _ => by simp at hk
 | y :: l, 0, _, _, h => by
  simp only [List.getElem_cons_zero] at h
  rw [putL, if_neg (by omega), if_neg (by omega)]; rfl
 | y :: l, k + 1, hk, h, h2 => by
  have h0 := h 0 (by simp) (by omega)
  simp only [List.getElem_cons_zero] at h0
  rw [putL, if_pos h0, zvt x l k (by simpa using hk) (fun j hj hjk => h (j + 1) (by simpa using hj) (by omega)) h2]; rfl
def putG (x : DtSaid) : Bool → List DtSaid → List DtSaid
 | p, [] => if p = true then [] else [x]
 | p, y :: l => (if p = false ∧ x.fClient ≤ y.fClient then [x] else []) ++ ((if y.fClient = x.fClient then [] else [y]) ++ putG x (p || decide (x.fClient ≤ y.fClient)) l)
def Cl (l : List DtSaid) : Prop := l.Pairwise fun a b => a.fClient < b.fClient
theorem putG_t (x : DtSaid) : ∀ l : List DtSaid, (∀ y ∈ l, x.fClient < y.fClient) → putG x true l = l
 | [], _ => rfl
 | y :: l, h => by
  have h0 := h y List.mem_cons_self
  rw [putG, if_neg (by simp), if_neg (by omega), Bool.true_or, putG_t x l fun z hz => h z (List.mem_cons_of_mem _ hz)]; rfl
theorem putG_L (x : DtSaid) : ∀ l : List DtSaid, Cl l → putG x false l = putL x l
 | [], _ => rfl
 | y :: l, h => by
  obtain ⟨h1, h2⟩ := List.pairwise_cons.1 h
  rw [putG, putL]
  by_cases e : y.fClient < x.fClient
  ·have : decide (x.fClient ≤ y.fClient) = false := by simp; omega
   rw [if_pos e, if_neg (by omega), if_neg (by omega), this, Bool.false_or, putG_L x l h2]; rfl
  ·have hd : decide (x.fClient ≤ y.fClient) = true := by simp; omega
   rw [if_neg e, if_pos ⟨rfl, by omega⟩, hd, Bool.false_or, putG_t x l fun z hz => by have := h1 z hz; omega]
   by_cases e2 : y.fClient = x.fClient
   ·rw [if_pos e2, if_pos e2]; rfl
   ·rw [if_neg e2, if_neg e2]; rfl
theorem zkv {s : DtState} (h : StateP s) : Cl s.fSaid := by
 have key : ∀ l : List DtSaid, (∀ (i : Nat) a b, l[i]? = some a → l[i + 1]? = some b → a.fClient < b.fClient) → Cl l := by
  intro l
  induction l with
  | nil => intro _; exact List.Pairwise.nil
  | cons a l ih =>
   intro h
   have h2 := ih fun i x y hx hy => h (i + 1) x y (by simpa using hx) (by simpa using hy)
   refine List.pairwise_cons.2 ⟨fun y hy => ?_, h2⟩
   cases l with
   | nil => cases hy
   | cons b l =>
    have hab := h 0 a b rfl rfl
    rcases List.mem_cons.1 hy with rfl | hy
    ·exact hab
    ·have := (List.pairwise_cons.1 h2).1 y hy
     omega
 exact key _ fun i a b ha hb => (h.2 (i + 1) b hb).2.2.2.2 a (by omega) ha
theorem zc8 {s : DtState} {m : DtCmd} (h : 0 ≤ saidI s m) : (saidI s m).toNat < s.fSaid.length := zl3 _ _ h
theorem idxZ_k {α : Type} {p : α → Bool} {l : List α} (h : 0 ≤ idxZ p l) (hk : (idxZ p l).toNat < l.length) : p l[(idxZ p l).toNat] = true ∧ ∀ j (hj : j < l.length), j < (idxZ p l).toNat → p l[j] = false := by
 cases hf : l.findIdx? p with
 | none => unfold idxZ at h; rw [hf] at h; simp at h
 | some i =>
  obtain ⟨h1, h2, h3⟩ := List.findIdx?_eq_some_iff_getElem.1 hf
  have e : (idxZ p l).toNat = i := by unfold idxZ; rw [hf]; rfl
  simp only [e]
  exact ⟨h2, fun j hj hji => by simpa using h3 j hji⟩
theorem idxZ_no {α : Type} {p : α → Bool} {l : List α} (h : idxZ p l < 0) (j : Nat) (hj : j < l.length) : p l[j] = false := by
 unfold idxZ at h
 split at h
 ·omega
 ·rename_i h2
  rw [List.findIdx?_eq_none_iff] at h2
  exact h2 _ (List.getElem_mem hj)
noncomputable def hitS (s : DtState) (m : DtCmd) : Option DtSaid := if h : 0 ≤ saidI s m then (if (s.fSaid[(saidI s m).toNat]'(zc8 h)).fClient = m.fClient then some (s.fSaid[(saidI s m).toNat]'(zc8 h)) else none) else none
noncomputable def stN (s : DtState) (m : DtCmd) : DtState := { fCat := catC s.fCat m, fSaid := putL (newS m (catR s.fCat m)) s.fSaid }
noncomputable def stC (s : DtState) (m : DtCmd) : DtState := if decB (StateP s) = true then (if decB (CmdP m) = true ∧ ¬ m.fKind = 0 then (match hitS s m with
 | some x => if m.fNo ≤ x.fNo then s else stN s m
 | none => stN s m) else s) else { fCat := { fSets := [] }, fSaid := [] }
noncomputable def stR (s : DtState) (m : DtCmd) : List UInt8 := if decB (StateP s) = true then (if decB (CmdP m) = true ∧ ¬ m.fKind = 0 then (match hitS s m with
 | some x => if x.fNo = m.fNo then x.fText else if m.fNo < x.fNo then bOld else catR s.fCat m
 | none => catR s.fCat m) else []) else []
section
variable {s : DtState} {m : DtCmd}
theorem st_f (h : ¬ StateP s) : stC s m = { fCat := { fSets := [] }, fSaid := [] } ∧ stR s m = [] := by unfold stC stR; rw [if_neg (by rw [zba]; exact h), if_neg (by rw [zba]; exact h)]; exact ⟨rfl, rfl⟩
theorem st_m (h : StateP s) (hm : ¬ (CmdP m ∧ ¬ m.fKind = 0)) : stC s m = s ∧ stR s m = [] := by unfold stC stR; rw [if_pos (zck h), if_pos (zck h), if_neg (by rw [zba]; exact hm), if_neg (by rw [zba]; exact hm)]; exact ⟨rfl, rfl⟩
theorem zl8 (h : StateP s) (hm : CmdP m) (h0 : ¬ m.fKind = 0) {x : DtSaid} (hx : hitS s m = some x) : stC s m = (if m.fNo ≤ x.fNo then s else stN s m) ∧ stR s m = (if x.fNo = m.fNo then x.fText else if m.fNo < x.fNo then bOld else catR s.fCat m) := by
 unfold stC stR
 have hc : decB (CmdP m) = true ∧ ¬ m.fKind = 0 := ⟨zck hm, h0⟩
 rw [if_pos (zck h), if_pos (zck h), if_pos hc, if_pos hc, hx]
 exact ⟨rfl, rfl⟩
theorem st_no (h : StateP s) (hm : CmdP m) (h0 : ¬ m.fKind = 0) (hx : hitS s m = none) : stC s m = stN s m ∧ stR s m = catR s.fCat m := by
 unfold stC stR
 have hc : decB (CmdP m) = true ∧ ¬ m.fKind = 0 := ⟨zck hm, h0⟩
 rw [if_pos (zck h), if_pos (zck h), if_pos hc, if_pos hc, hx]
 exact ⟨rfl, rfl⟩
theorem zkw (h : 0 ≤ saidI s m) (he : (s.fSaid[(saidI s m).toNat]'(zc8 h)).fClient = m.fClient) : hitS s m = some (s.fSaid[(saidI s m).toNat]'(zc8 h)) := by unfold hitS; rw [dif_pos h, if_pos he]
theorem hit_none (h : 0 ≤ saidI s m) (he : ¬ (s.fSaid[(saidI s m).toNat]'(zc8 h)).fClient = m.fClient) : hitS s m = none := by unfold hitS; rw [dif_pos h, if_neg he]
theorem hit_neg (h : saidI s m < 0) : hitS s m = none := by unfold hitS; rw [dif_neg (by omega)]
theorem ztd (h : StateP s) (hm : CmdP m) (h0 : ¬ m.fKind = 0) (hz : 0 ≤ saidI s m) (he : (s.fSaid[(saidI s m).toNat]'(zc8 hz)).fClient = m.fClient) (hn : (s.fSaid[(saidI s m).toNat]'(zc8 hz)).fNo = m.fNo) : stC s m = s ∧ stR s m = (s.fSaid[(saidI s m).toNat]'(zc8 hz)).fText := by
 have ⟨h1, h2⟩ := zl8 h hm h0 (zkw hz he)
 rw [h1, h2, if_pos (by omega), if_pos hn]; exact ⟨rfl, rfl⟩
theorem zl9 (h : StateP s) (hm : CmdP m) (h0 : ¬ m.fKind = 0) (hz : 0 ≤ saidI s m) (he : (s.fSaid[(saidI s m).toNat]'(zc8 hz)).fClient = m.fClient) (hn : m.fNo < (s.fSaid[(saidI s m).toNat]'(zc8 hz)).fNo) : stC s m = s ∧ stR s m = bOld := by
 have ⟨h1, h2⟩ := zl8 h hm h0 (zkw hz he)
 rw [h1, h2, if_pos (by omega), if_neg (by omega), if_pos hn]; exact ⟨rfl, rfl⟩
theorem said_lt (hz : 0 ≤ saidI s m) (j : Nat) (hj : j < s.fSaid.length) (hjk : j < (saidI s m).toNat) : s.fSaid[j].fClient < m.fClient := by
 have := (idxZ_k hz (zc8 hz)).2 j hj hjk
 simpa using this
theorem said_ge (hz : 0 ≤ saidI s m) : m.fClient ≤ (s.fSaid[(saidI s m).toNat]'(zc8 hz)).fClient := by
 have := (idxZ_k hz (zc8 hz)).1
 exact of_decide_eq_true this
theorem zma (h : StateP s) (hm : CmdP m) (h0 : ¬ m.fKind = 0) (hz : 0 ≤ saidI s m) (he : (s.fSaid[(saidI s m).toNat]'(zc8 hz)).fClient = m.fClient) (hn : (s.fSaid[(saidI s m).toNat]'(zc8 hz)).fNo < m.fNo) : stC s m = { fCat := catC s.fCat m, fSaid := s.fSaid.set (saidI s m).toNat (newS m (catR s.fCat m)) } ∧ stR s m = catR s.fCat m := by
 have ⟨h1, h2⟩ := zl8 h hm h0 (zkw hz he)
 rw [h1, h2, if_neg (by omega), if_neg (by omega), if_neg (by omega), stN, zvs _ _ _ (zc8 hz) (said_lt hz) he]; exact ⟨rfl, rfl⟩
theorem zmb (h : StateP s) (hm : CmdP m) (h0 : ¬ m.fKind = 0) (hz : 0 ≤ saidI s m) (he : ¬ (s.fSaid[(saidI s m).toNat]'(zc8 hz)).fClient = m.fClient) : stC s m = { fCat := catC s.fCat m, fSaid := s.fSaid.take (saidI s m).toNat ++ newS m (catR s.fCat m) :: s.fSaid.drop (saidI s m).toNat } ∧ stR s m = catR s.fCat m := by
 have ⟨h1, h2⟩ := st_no h hm h0 (hit_none hz he)
 have hg := said_ge hz
 rw [h1, h2, stN, zvt _ _ _ (zc8 hz) (said_lt hz) (by show m.fClient < _; omega)]; exact ⟨rfl, rfl⟩
theorem zmc (h : StateP s) (hm : CmdP m) (h0 : ¬ m.fKind = 0) (hz : saidI s m < 0) : stC s m = { fCat := catC s.fCat m, fSaid := s.fSaid ++ [newS m (catR s.fCat m)] } ∧ stR s m = catR s.fCat m := by
 have ⟨h1, h2⟩ := st_no h hm h0 (hit_neg hz)
 rw [h1, h2, stN, zvr _ _ fun j hj => by have := idxZ_no hz j hj; show _ < m.fClient; simpa using this]; exact ⟨rfl, rfl⟩
/-- The place of a client that is there. -/
theorem saidI_at (h : StateP s) {i : Nat} (hi : i < s.fSaid.length) (he : s.fSaid[i].fClient = m.fClient) : saidI s m = i := by
 refine zc1 hi (by simp; omega) fun j x hj hx => ?_
 obtain ⟨hj2, rfl⟩ := List.getElem?_eq_some_iff.1 hx
 have := List.pairwise_iff_getElem.1 (zkv h) j i hj2 hi hj
 simp; omega
theorem hit_at (h : StateP s) {i : Nat} (hi : i < s.fSaid.length) (he : s.fSaid[i].fClient = m.fClient) : hitS s m = some s.fSaid[i] := by
 have hz := saidI_at h hi he
 have h2 : 0 ≤ saidI s m := by omega
 have e : s.fSaid[(saidI s m).toNat]'(zc8 h2) = s.fSaid[i] := by simp only [hz, Int.toNat_natCast]
 rw [zkw h2 (by rw [e]; exact he), e]
theorem zrn (h : StateP s) (hm : CmdP m) (h0 : ¬ m.fKind = 0) {i : Nat} (hi : i < s.fSaid.length) (he : s.fSaid[i].fClient = m.fClient) (hn : s.fSaid[i].fNo = m.fNo) : stC s m = s ∧ stR s m = s.fSaid[i].fText := by
 have ⟨h1, h2⟩ := zl8 h hm h0 (hit_at h hi he)
 rw [h1, h2, if_pos (by omega), if_pos hn]; exact ⟨rfl, rfl⟩
theorem zmd (h : StateP s) (hm : CmdP m) (h0 : ¬ m.fKind = 0) {i : Nat} (hi : i < s.fSaid.length) (he : s.fSaid[i].fClient = m.fClient) (hn : m.fNo < s.fSaid[i].fNo) : stC s m = s ∧ stR s m = bOld := by
 have ⟨h1, h2⟩ := zl8 h hm h0 (hit_at h hi he)
 rw [h1, h2, if_pos (by omega), if_neg (by omega), if_pos hn]; exact ⟨rfl, rfl⟩
theorem st_go (h : StateP s) (hm : CmdP m) (h0 : ¬ m.fKind = 0) (hall : ∀ j (hj : j < s.fSaid.length), s.fSaid[j].fClient = m.fClient → s.fSaid[j].fNo < m.fNo) : stC s m = stN s m ∧ stR s m = catR s.fCat m := by
 cases hx : hitS s m with
 | none => exact st_no h hm h0 hx
 | some x =>
  have : x.fNo < m.fNo := by
   unfold hitS at hx
   split at hx
   ·rename_i hz
    split at hx
    ·rename_i he
     cases hx
     exact hall _ _ he
    ·cases hx
   ·cases hx
  have ⟨h1, h2⟩ := zl8 h hm h0 hx
  rw [h1, h2, if_neg (by omega), if_neg (by omega), if_neg (by omega)]; exact ⟨rfl, rfl⟩
end
end Go.Proofs.YtmheohnbkaoipaaGreat.Vs

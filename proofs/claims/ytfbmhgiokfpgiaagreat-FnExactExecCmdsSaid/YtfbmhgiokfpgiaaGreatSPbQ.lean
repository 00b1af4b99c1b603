import Derived.Test.YtfbmhgiokfpgiaaGreatSH3
import Derived.Test.YtfbmhgiokfpgiaaGreatVs9
open Go Go.Proofs Go.Proofs.YtfbmhgiokfpgiaaGreat.Vs
namespace Go.Proofs.YtfbmhgiokfpgiaaGreat.Vs
set_option linter.all false
set_option linter.unusedSimpArgs false
set_option linter.unusedVariables false
set_option maxRecDepth 100000
/-! rows of rows of ids, walked in place -/
def cP (p : List DtId) : List AV := [.sl 2 (p.map DtId.cells)]
theorem del_eq {α : Type} (l : List α) (k : Nat) (h : k < l.length) : List.take ((k : Int) + ((l.length - (k + 1) : Nat) : Int)).toNat (l.take k ++ ((l.drop (k + 1)).take (l.length - (k + 1)) ++ l.drop (k + (l.length - (k + 1))))) = l.take k ++ l.drop (k + 1) := by
 have e : ((k : Int) + ((l.length - (k + 1) : Nat) : Int)).toNat = k + (l.length - (k + 1)) := by omega
 rw [e, List.take_of_length_le (l := l.drop (k + 1)) (by simp), ← List.append_assoc, List.take_append_of_le_length (by simp; omega), List.take_of_length_le (by simp; omega)]
theorem delRows {ob : Nat → Option OB} {n : Nat} (rows : List (List AV)) (hok : ObOk ob) (hob : ob n = some (.win 1 rows)) (k : Nat) (hk : k < rows.length) (hl : rows.length ≤ 1048576) : ∃ fs, INL Tryz.prog 55 fs ob [.arr n 0 rows.length, (.g (.int .i64 ((k : Nat)))), (.g (.int .i64 ((k : Nat) + 1)))] (KQ (AV.arr n 0 (rows.length - 1)) (upd ob n (some (.win 1 (rows.take k ++ rows.drop (k + 1)))))) := by
 refine zmj Tryz.func55 (by rfl) (by rfl) (by rw [Tryz.ntmps55]; exact Nat.le_of_ble_eq_true rfl) (by rfl) (hok) fun fs => ?_
 rw [Tryz.ntmps55]
 refine AW_k [(0, _), (1, _), (2, _)] ⟨rfl, rfl, rfl, trivial⟩ ?_
 refine AW_winc (sz := 1) (xs := rows) n (by simp [zbl, hob]) (by omega) fun c0 hc0 => ?_
 refine AW_x rfl rfl fun K hK => ?_
 simp (disch := omega) [zbd, gE, tP, DtId.cells, List.range_succ, zb8, zc1, tupA, noTup, zbn]
 repeat' first | (refine ⟨by omega, ?_⟩) | (intro _)
 refine hK _ ?_; clear hK K
 refine AW_x rfl rfl fun K hK => ?_
 simp (disch := omega) [zbd, gE, tP, DtId.cells, List.range_succ, zb8, zc1, tupA, noTup, zbn]
 repeat' first | (refine ⟨by omega, ?_⟩) | (simp (disch := omega) [zbd, gE, tP, DtId.cells, List.range_succ, zb8, zc1, tupA, noTup, zbn]) | (intro _)
 refine hK _ ?_; clear hK K
 refine zbr ?_
 refine AW_x rfl rfl fun K hK => ?_
 simp (disch := omega) [zbd, gE, tP, DtId.cells, List.range_succ, zb8, zc1, tupA, noTup, zbn]
 repeat' first | (refine ⟨by omega, ?_⟩) | (intro _)
 refine hK _ ?_; clear hK K
 refine zbu rfl (fun hc1 => ?_) (fun hc1 => ?_)
 ·try simp [zbc, zbb, zbg, zbf, zbq, zbt] at hc1
  all_goals
   refine AW_x rfl rfl fun K hK => ?_
   simp (disch := omega) [zbd, gE, tP, DtId.cells, List.range_succ, zb8, zc1, tupA, noTup, zbn]
   repeat' first | (exfalso; omega) | (refine ⟨fun _ => ?_, fun _ => ?_⟩) | (refine ⟨by omega, ?_⟩) | (simp (disch := omega) [zbd, gE, tP, DtId.cells, List.range_succ, zb8, zc1, tupA, noTup, zbn]) | (intro _)
   all_goals (refine hK _ ?_; clear hK K)
   all_goals
    refine zby (zmk ?_)
    simp (disch := omega) [zbd, gE, tP, DtId.cells, List.range_succ, zb8, zc1, tupA, noTup, zbn]
    all_goals omega
 ·try simp [zbc, zbb, zbg, zbf, zbq, zbt] at hc1
  all_goals
   refine zbv ?_
   refine zb4 ?_
   refine AW_x rfl rfl fun K hK => ?_
   simp (disch := omega) [zbd, gE, tP, DtId.cells, List.range_succ, zb8, zc1, tupA, noTup, zbn]
   repeat' first | (exfalso; omega) | (refine ⟨fun _ => ?_, fun _ => ?_⟩) | (refine ⟨by omega, ?_⟩) | (simp (disch := omega) [zbd, gE, tP, DtId.cells, List.range_succ, zb8, zc1, tupA, noTup, zbn]) | (intro _)
   all_goals (refine hK _ ?_; clear hK K)
   all_goals
    refine AW_d rfl mix (by kernel_rfl) (by kernel_rfl) fun K hK => ?_
    simp (disch := omega) [zbd, gE, tP, DtId.cells, List.range_succ, zb8, zc1, tupA, noTup, zbn]
    repeat' first | (refine ⟨by omega, ?_⟩) | (simp (disch := omega) [zbd, gE, tP, DtId.cells, List.range_succ, zb8, zc1, tupA, noTup, zbn]) | (intro _)
    refine hK _ _ (by kernel_rfl) ?_; clear hK K
    refine AW_x rfl rfl fun K hK => ?_
    simp (disch := omega) [zbd, gE, tP, DtId.cells, List.range_succ, zb8, zc1, tupA, noTup, zbn]
    repeat' first | (refine ⟨by omega, ?_⟩) | (simp (disch := omega) [zbd, gE, tP, DtId.cells, List.range_succ, zb8, zc1, tupA, noTup, zbn]) | (intro _)
    refine hK _ ?_; clear hK K
    refine AW_le (LeS.cwin (sz := 1) (c0 := c0) (xs := rows.take k ++ rows.drop (k + 1)) n (by simp [zbl, zbi, zbp]; exact del_eq rows k hk)) ?_
    refine AW_x rfl rfl fun K hK => ?_
    simp (disch := omega) [zbd, gE, tP, DtId.cells, List.range_succ, zb8, zc1, tupA, noTup, zbn]
    repeat' first | (refine ⟨by omega, ?_⟩) | (intro _)
    refine hK _ ?_; clear hK K
    refine zby (zmk ?_)
    simp (disch := omega) [zbd, gE, tP, DtId.cells, List.range_succ, zb8, zc1, tupA, noTup, zbn]
    all_goals omega
theorem znw {ob : Nat → Option OB} {n : Nat} {F : FuncId} {cap : List AV} {q : List DtId → Bool} (xs : List (List DtId)) (hok : ObOk ob) (hob : ob n = some (.win 1 (xs.map cP))) (hn : xs.length ≤ 1048576) (hf : ∀ p ∈ xs, ∃ fs, INL Tryz.prog F fs ob (.sl 2 (p.map DtId.cells) :: cap) (KQ ((.g (.bool (q p)))) (ob))) : ∃ fs, INL Tryz.prog 52 fs ob [.arr n 0 xs.length, .fn F [] cap] (KQ ((.g (.int .i64 (idxZ q xs)))) (ob)) := by
 refine zmj Tryz.func52 (by rfl) (by rfl) (by rw [Tryz.ntmps52]; exact Nat.le_of_ble_eq_true rfl) (by rfl) (hok) fun fs => ?_
 rw [Tryz.ntmps52]
 refine AW_k [(0, _), (1, _)] ⟨rfl, rfl, trivial⟩ ?_
 refine AW_x rfl rfl fun K hK => ?_
 simp (disch := omega) [zbd, gE, tP, DtId.cells, List.range_succ, zb8, zc1, tupA, noTup, hob, cP]
 repeat' first | (refine zky (hf xs[i] (List.getElem_mem _)) ?_; rintro _ _ ⟨rfl, rfl⟩; try simp (disch := omega) [zbd, gE, tP, DtId.cells, List.range_succ, zb8, zc1, tupA, noTup, hob, cP]) | (refine ⟨by omega, ?_⟩) | (intro _)
 refine hK _ ?_; clear hK K
 refine zbr ?_
 refine AW_x rfl rfl fun K hK => ?_
 simp (disch := omega) [zbd, gE, tP, DtId.cells, List.range_succ, zb8, zc1, tupA, noTup, hob, cP]
 repeat' first | (refine zky (hf xs[i] (List.getElem_mem _)) ?_; rintro _ _ ⟨rfl, rfl⟩; try simp (disch := omega) [zbd, gE, tP, DtId.cells, List.range_succ, zb8, zc1, tupA, noTup, hob, cP]) | (refine ⟨by omega, ?_⟩) | (simp (disch := omega) [zbd, gE, tP, DtId.cells, List.range_succ, zb8, zc1, tupA, noTup, hob, cP]) | (intro _)
 refine hK _ ?_; clear hK K
 refine zb0 ?_
 refine zcf (fun mM sS => ∃ (i : Nat), mM = xs.length - i ∧ (i ≤ xs.length ∧ ∀ (j : Nat) x, j < i → xs[j]? = some x → q x = false) ∧ sS = { env := lkE [(0, .arr n 0 xs.length), (1, .fn F [] cap), (6, .arr n 0 xs.length), (7, (.g (.int .i64 ((xs.length : Nat))))), (8, (.g (.int .i64 ((i : Nat)))))], ob := ob }) ?_ ?_
 ·refine ⟨_, LeS.kp [(0, .arr n 0 xs.length), (1, .fn F [] cap), (6, .arr n 0 xs.length), (7, (.g (.int .i64 ((xs.length : Nat))))), (8, (.g (.int .i64 (((0) : Nat)))))] (by simp [KpE, zbl, zb5, zbi]; try rfl), _, 0, rfl, ?_, rfl⟩
  ·simp
 ·rintro mM sS ⟨i, rfl, ⟨hi, hpre⟩, rfl⟩
  refine AW_x rfl rfl fun K hK => ?_
  simp (disch := omega) [zbd, gE, tP, DtId.cells, List.range_succ, zb8, zc1, tupA, noTup, hob, cP]
  repeat' first | (refine zky (hf xs[i] (List.getElem_mem _)) ?_; rintro _ _ ⟨rfl, rfl⟩; try simp (disch := omega) [zbd, gE, tP, DtId.cells, List.range_succ, zb8, zc1, tupA, noTup, hob, cP]) | (refine ⟨by omega, ?_⟩) | (intro _)
  refine hK _ ?_; clear hK K
  refine zbr ?_
  refine zbu rfl (fun hc2 => ?_) (fun hc2 => ?_)
  ·try simp [zbc, zbb, zbg, zbf, zbq, zbt] at hc2
   all_goals
    have hg : xs[i]? = some xs[i] := List.getElem?_eq_getElem (by omega)
    refine zbv ?_
    refine zb4 ?_
    refine zbr ?_
    refine zb0 ?_
    refine AW_x rfl rfl fun K hK => ?_
    simp (disch := omega) [zbd, gE, tP, DtId.cells, List.range_succ, zb8, zc1, tupA, noTup, hob, cP]
    repeat' first | (exfalso; omega) | (refine zky (hf xs[i] (List.getElem_mem _)) ?_; rintro _ _ ⟨rfl, rfl⟩; try simp (disch := omega) [zbd, gE, tP, DtId.cells, List.range_succ, zb8, zc1, tupA, noTup, hob, cP]) | (refine ⟨fun _ => ?_, fun _ => ?_⟩) | (refine ⟨by omega, ?_⟩) | (simp (disch := omega) [zbd, gE, tP, DtId.cells, List.range_succ, zb8, zc1, tupA, noTup, hob, cP]) | (intro _)
    all_goals (refine hK _ ?_; clear hK K)
    all_goals
     refine AW_x rfl rfl fun K hK => ?_
     simp (disch := omega) [zbd, gE, tP, DtId.cells, List.range_succ, zb8, zc1, tupA, noTup, hob, cP]
     repeat' first | (refine zky (hf xs[i] (List.getElem_mem _)) ?_; rintro _ _ ⟨rfl, rfl⟩; try simp (disch := omega) [zbd, gE, tP, DtId.cells, List.range_succ, zb8, zc1, tupA, noTup, hob, cP]) | (refine ⟨by omega, ?_⟩) | (simp (disch := omega) [zbd, gE, tP, DtId.cells, List.range_succ, zb8, zc1, tupA, noTup, hob, cP]) | (intro _)
     refine hK _ ?_; clear hK K
     refine zbu rfl (fun hc3 => ?_) (fun hc3 => ?_)
     ·try simp [zbc, zbb, zbg, zbf, zbq, zbt] at hc3
      all_goals
       refine AW_x rfl rfl fun K hK => ?_
       simp (disch := omega) [zbd, gE, tP, DtId.cells, List.range_succ, zb8, zc1, tupA, noTup, hob, cP]
       repeat' first | (exfalso; omega) | (refine zky (hf xs[i] (List.getElem_mem _)) ?_; rintro _ _ ⟨rfl, rfl⟩; try simp (disch := omega) [zbd, gE, tP, DtId.cells, List.range_succ, zb8, zc1, tupA, noTup, hob, cP]) | (refine ⟨fun _ => ?_, fun _ => ?_⟩) | (refine ⟨by omega, ?_⟩) | (simp (disch := omega) [zbd, gE, tP, DtId.cells, List.range_succ, zb8, zc1, tupA, noTup, hob, cP]) | (intro _)
       all_goals (refine hK _ ?_; clear hK K)
       all_goals
        refine zby (zmk ?_)
        simp (disch := omega) [zbd, gE, tP, DtId.cells, List.range_succ, zb8, zc1, tupA, noTup, hob, cP]
        all_goals first | (exact zd1 (by assumption) (by assumption) hpre) | (exact zfj (fun j x h => hpre j x (by omega))) | trace_state
     ·try simp [zbc, zbb, zbg, zbf, zbq, zbt] at hc3
      all_goals
       refine zbv ?_
       refine zb4 ?_
       refine zdd rfl rfl fun K hK => ?_
       simp (disch := omega) [zbd, gE, tP, DtId.cells, List.range_succ, zb8, zc1, tupA, noTup, hob, cP]
       repeat' first | (exfalso; omega) | (refine zky (hf xs[i] (List.getElem_mem _)) ?_; rintro _ _ ⟨rfl, rfl⟩; try simp (disch := omega) [zbd, gE, tP, DtId.cells, List.range_succ, zb8, zc1, tupA, noTup, hob, cP]) | (refine ⟨fun _ => ?_, fun _ => ?_⟩) | (refine ⟨by omega, ?_⟩) | (simp (disch := omega) [zbd, gE, tP, DtId.cells, List.range_succ, zb8, zc1, tupA, noTup, hob, cP]) | (intro _)
       all_goals (refine hK _ ?_; clear hK K)
       all_goals
        refine ⟨_, LeS.kp [(0, .arr n 0 xs.length), (1, .fn F [] cap), (6, .arr n 0 xs.length), (7, (.g (.int .i64 ((xs.length : Nat))))), (8, (.g (.int .i64 (((i + 1) : Nat)))))] (by simp [KpE, zbl, zb5, zbi]; try rfl), _, ?_, i + 1, rfl, ?_, rfl⟩
        ·omega
        ·refine ⟨by omega, ?_⟩; grind
  ·try simp [zbc, zbb, zbg, zbf, zbq, zbt] at hc2
   all_goals
    refine zch ?_
    refine zb4 ?_
    refine AW_x rfl rfl fun K hK => ?_
    simp (disch := omega) [zbd, gE, tP, DtId.cells, List.range_succ, zb8, zc1, tupA, noTup, hob, cP]
    repeat' first | (exfalso; omega) | (refine zky (hf xs[i] (List.getElem_mem _)) ?_; rintro _ _ ⟨rfl, rfl⟩; try simp (disch := omega) [zbd, gE, tP, DtId.cells, List.range_succ, zb8, zc1, tupA, noTup, hob, cP]) | (refine ⟨fun _ => ?_, fun _ => ?_⟩) | (refine ⟨by omega, ?_⟩) | (simp (disch := omega) [zbd, gE, tP, DtId.cells, List.range_succ, zb8, zc1, tupA, noTup, hob, cP]) | (intro _)
    all_goals (refine hK _ ?_; clear hK K)
    all_goals
     refine zby (zmk ?_)
     simp (disch := omega) [zbd, gE, tP, DtId.cells, List.range_succ, zb8, zc1, tupA, noTup, hob, cP]
     all_goals first | (exact zd1 (by assumption) (by assumption) hpre) | (exact zfj (fun j x h => hpre j x (by omega))) | trace_state
theorem zjq {α : Type} (q : α → Bool) (l : List α) : decide (0 ≤ idxZ q l) = l.any q := by
 rw [Bool.eq_iff_iff, List.any_eq_true]
 simp only [decide_eq_true_eq]
 unfold idxZ
 split
 ·rename_i i h
  obtain ⟨h1, h2, -⟩ := List.findIdx?_eq_some_iff_getElem.1 h
  exact ⟨fun _ => ⟨_, List.getElem_mem h1, h2⟩, fun _ => by omega⟩
 ·rename_i h
  rw [List.findIdx?_eq_none_iff] at h
  refine ⟨fun h => by omega, fun ⟨x, hx, hq⟩ => ?_⟩
  rw [h x hx] at hq; cases hq
theorem zqb {ob : Nat → Option OB} {n : Nat} {F : FuncId} {cap : List AV} {q : List DtId → Bool} (xs : List (List DtId)) (hok : ObOk ob) (hob : ob n = some (.win 1 (xs.map cP))) (hn : xs.length ≤ 1048576) (hf : ∀ p ∈ xs, ∃ fs, INL Tryz.prog F fs ob (.sl 2 (p.map DtId.cells) :: cap) (KQ ((.g (.bool (q p)))) (ob))) : ∃ fs, INL Tryz.prog 47 fs ob [.arr n 0 xs.length, .fn F [] cap] (KQ ((.g (.bool (xs.any q)))) (ob)) := by
 refine zmj Tryz.func47 (by rfl) (by rfl) (by rw [Tryz.ntmps47]; exact Nat.le_of_ble_eq_true rfl) (by rfl) (hok) fun fs => ?_
 rw [Tryz.ntmps47]
 refine AW_k [(0, _), (1, _)] ⟨rfl, rfl, trivial⟩ ?_
 refine AW_x rfl rfl fun K hK => ?_
 simp (disch := omega) [zbd, gE, tP, DtId.cells, List.range_succ, zb8, zc1, tupA, noTup, zjq]
 repeat' first | (refine ⟨by omega, ?_⟩) | (intro _)
 refine hK _ ?_; clear hK K
 refine AW_x rfl rfl fun K hK => ?_
 simp (disch := omega) [zbd, gE, tP, DtId.cells, List.range_succ, zb8, zc1, tupA, noTup, zjq]
 repeat' first | (exfalso; omega) | (refine zky (znw (q := q) xs hok hob hn hf) ?_; rintro _ _ ⟨rfl, rfl⟩; simp (disch := omega) [zbd, gE, tP, DtId.cells, List.range_succ, zb8, zc1, tupA, noTup, zjq]) | (refine ⟨by omega, ?_⟩) | (simp (disch := omega) [zbd, gE, tP, DtId.cells, List.range_succ, zb8, zc1, tupA, noTup, zjq]) | (intro _)
 refine hK _ ?_; clear hK K
 refine zby (zmk ?_)
 simp (disch := omega) [zbd, gE, tP, DtId.cells, List.range_succ, zb8, zc1, tupA, noTup, zjq]
 all_goals trace_state
theorem parts1 {ob : Nat → Option OB} {m : Nat} (x : DtInst) (p : List DtId) (hok : ObOk ob) (hx : ob m = some (.cells (DtInst.cells x))) (hp : p.length ≤ 1048576) : ∃ fs, INL Tryz.prog 48 fs ob [.sl 2 (p.map DtId.cells), .ptr m 0] (KQ ((.g (.bool (decB (x.fId ∈ p))))) (ob)) := by
 refine zmj Tryz.func48 (by rfl) (by rfl) (by rw [Tryz.ntmps48]; exact Nat.le_of_ble_eq_true rfl) (by rfl) (hok) fun fs => ?_
 rw [Tryz.ntmps48]
 refine AW_k [(0, _), (1, _)] ⟨rfl, rfl, trivial⟩ ?_
 refine AW_x rfl rfl fun K hK => ?_
 simp (disch := omega) [zbd, gE, tP, DtId.cells, List.range_succ, zb8, zc1, tupA, noTup, hx, DtInst.cells, DtCmd.cells]
 repeat' first | (refine ⟨by omega, ?_⟩) | (intro _)
 refine hK _ ?_; clear hK K
 refine AW_x rfl rfl fun K hK => ?_
 simp (disch := omega) [zbd, gE, tP, DtId.cells, List.range_succ, zb8, zc1, tupA, noTup, hx, DtInst.cells, DtCmd.cells]
 repeat' first | (exfalso; omega) | (refine zde (zbh zce (zbh (zcb rfl) zbs)) (zd2 p x.fId hp) rfl ?_; simp (disch := omega) [zbd, gE, tP, DtId.cells, List.range_succ, zb8, zc1, tupA, noTup, hx, DtInst.cells, DtCmd.cells]) | (refine zdf (zd2 p x.fId hp) (by rfl) ?_ ?_; (focus (simp (disch := omega) [zbd, gE, tP, DtId.cells, List.range_succ, zb8, zc1, tupA, noTup, hx, DtInst.cells, DtCmd.cells, zba]; done)); simp (disch := omega) [zbd, gE, tP, DtId.cells, List.range_succ, zb8, zc1, tupA, noTup, hx, DtInst.cells, DtCmd.cells]) | (refine ⟨by omega, ?_⟩) | (simp (disch := omega) [zbd, gE, tP, DtId.cells, List.range_succ, zb8, zc1, tupA, noTup, hx, DtInst.cells, DtCmd.cells]) | (intro _)
 refine hK _ ?_; clear hK K
 refine zby (zmk ?_)
 simp (disch := omega) [zbd, gE, tP, DtId.cells, List.range_succ, zb8, zc1, tupA, noTup, hx, DtInst.cells, DtCmd.cells]
 all_goals trace_state
end Go.Proofs.YtfbmhgiokfpgiaaGreat.Vs

import Derived.Test.YtfbmhgiokfpgiaaSH3
import Derived.Test.YtfbmhgiokfpgiaaVs9
open Go Go.Proofs Go.Proofs.Ytfbmhgiokfpgiaa.Vs
namespace Go.Proofs.Ytfbmhgiokfpgiaa.Vs
set_option linter.all false
set_option linter.unusedSimpArgs false
set_option linter.unusedVariables false
set_option maxRecDepth 100000
/-! rows of rows of ids, walked in place -/
def cP (p : List DtId) : List AV := [.sl 2 (p.map DtId.cells)]
theorem del_eq {α : Type} (l : List α) (k : Nat) (h : k < l.length) : List.take ((k : Int) + ((l.length - (k + 1) : Nat) : Int)).toNat (l.take k ++ ((l.drop (k + 1)).take (l.length - (k + 1)) ++ l.drop (k + (l.length - (k + 1))))) = l.take k ++ l.drop (k + 1) := by
 have e : ((k : Int) + ((l.length - (k + 1) : Nat) : Int)).toNat = k + (l.length - (k + 1)) := by omega
 rw [e, List.take_of_length_le (l := l.drop (k + 1)) (by simp), ← List.append_assoc, List.take_append_of_le_length (by simp; omega), List.take_of_length_le (by simp; omega)]
theorem delRows {ob : Nat → Option OB} {n : Nat} (rows : List (List AV)) (hok : ObOk ob) (hob : ob n = some (.win 1 rows)) (k : Nat) (hk : k < rows.length) (hl : rows.length ≤ 1048576) : ∃ fs, INL Try.prog 72 fs ob [.arr n 0 rows.length, (.g (.int .i64 ((k : Nat)))), (.g (.int .i64 ((k : Nat) + 1)))] (KQ (AV.arr n 0 (rows.length - 1)) (upd ob n (some (.win 1 (rows.take k ++ rows.drop (k + 1)))))) := by
 refine zlt Try.func72 (by rfl) (by rfl) (by rw [Try.ntmps72]; exact Nat.le_of_ble_eq_true rfl) (by rfl) (hok) fun fs => ?_
 rw [Try.ntmps72]
 refine AW_k [(0, _), (1, _), (2, _)] ⟨rfl, rfl, rfl, trivial⟩ ?_
 refine AW_winc (sz := 1) (xs := rows) n (by simp [zbn, hob]) (by omega) fun c0 hc0 => ?_
 refine AW_x rfl rfl fun K hK => ?_
 simp (disch := omega) [zbd, gE, tP, DtId.cells, List.range_succ, zb7, zcu, tupA, noTup, zbm]
 repeat' first | (refine ⟨by omega, ?_⟩) | (intro _)
 refine hK _ ?_; clear hK K
 refine AW_x rfl rfl fun K hK => ?_
 simp (disch := omega) [zbd, gE, tP, DtId.cells, List.range_succ, zb7, zcu, tupA, noTup, zbm]
 repeat' first | (refine ⟨by omega, ?_⟩) | (simp (disch := omega) [zbd, gE, tP, DtId.cells, List.range_succ, zb7, zcu, tupA, noTup, zbm]) | (intro _)
 refine hK _ ?_; clear hK K
 refine zbt ?_
 refine AW_x rfl rfl fun K hK => ?_
 simp (disch := omega) [zbd, gE, tP, DtId.cells, List.range_succ, zb7, zcu, tupA, noTup, zbm]
 repeat' first | (refine ⟨by omega, ?_⟩) | (intro _)
 refine hK _ ?_; clear hK K
 refine zbv rfl (fun hc1 => ?_) (fun hc1 => ?_)
 ·try simp [zbb, zba, zbf, zbe, zbp, zbq] at hc1
  all_goals
   refine AW_x rfl rfl fun K hK => ?_
   simp (disch := omega) [zbd, gE, tP, DtId.cells, List.range_succ, zb7, zcu, tupA, noTup, zbm]
   repeat' first | (exfalso; omega) | (refine ⟨fun _ => ?_, fun _ => ?_⟩) | (refine ⟨by omega, ?_⟩) | (simp (disch := omega) [zbd, gE, tP, DtId.cells, List.range_succ, zb7, zcu, tupA, noTup, zbm]) | (intro _)
   all_goals (refine hK _ ?_; clear hK K)
   all_goals
    refine zbz (zlu ?_)
    simp (disch := omega) [zbd, gE, tP, DtId.cells, List.range_succ, zb7, zcu, tupA, noTup, zbm]
    all_goals omega
 ·try simp [zbb, zba, zbf, zbe, zbp, zbq] at hc1
  all_goals
   refine zbw ?_
   refine zb3 ?_
   refine AW_x rfl rfl fun K hK => ?_
   simp (disch := omega) [zbd, gE, tP, DtId.cells, List.range_succ, zb7, zcu, tupA, noTup, zbm]
   repeat' first | (exfalso; omega) | (refine ⟨fun _ => ?_, fun _ => ?_⟩) | (refine ⟨by omega, ?_⟩) | (simp (disch := omega) [zbd, gE, tP, DtId.cells, List.range_succ, zb7, zcu, tupA, noTup, zbm]) | (intro _)
   all_goals (refine hK _ ?_; clear hK K)
   all_goals
    refine AW_d rfl mix (by kernel_rfl) (by kernel_rfl) fun K hK => ?_
    simp (disch := omega) [zbd, gE, tP, DtId.cells, List.range_succ, zb7, zcu, tupA, noTup, zbm]
    repeat' first | (refine ⟨by omega, ?_⟩) | (simp (disch := omega) [zbd, gE, tP, DtId.cells, List.range_succ, zb7, zcu, tupA, noTup, zbm]) | (intro _)
    refine hK _ _ (by kernel_rfl) ?_; clear hK K
    refine AW_x rfl rfl fun K hK => ?_
    simp (disch := omega) [zbd, gE, tP, DtId.cells, List.range_succ, zb7, zcu, tupA, noTup, zbm]
    repeat' first | (refine ⟨by omega, ?_⟩) | (simp (disch := omega) [zbd, gE, tP, DtId.cells, List.range_succ, zb7, zcu, tupA, noTup, zbm]) | (intro _)
    refine hK _ ?_; clear hK K
    refine AW_le (LeS.cwin (sz := 1) (c0 := c0) (xs := rows.take k ++ rows.drop (k + 1)) n (by simp [zbn, zbk, zbx]; exact del_eq rows k hk)) ?_
    refine AW_x rfl rfl fun K hK => ?_
    simp (disch := omega) [zbd, gE, tP, DtId.cells, List.range_succ, zb7, zcu, tupA, noTup, zbm]
    repeat' first | (refine ⟨by omega, ?_⟩) | (intro _)
    refine hK _ ?_; clear hK K
    refine zbz (zlu ?_)
    simp (disch := omega) [zbd, gE, tP, DtId.cells, List.range_succ, zb7, zcu, tupA, noTup, zbm]
    all_goals omega
theorem zm3 {ob : Nat → Option OB} {n : Nat} {F : FuncId} {cap : List AV} {q : List DtId → Bool} (xs : List (List DtId)) (hok : ObOk ob) (hob : ob n = some (.win 1 (xs.map cP))) (hn : xs.length ≤ 1048576) (hf : ∀ p ∈ xs, ∃ fs, INL Try.prog F fs ob (.sl 2 (p.map DtId.cells) :: cap) (KQ ((.g (.bool (q p)))) (ob))) : ∃ fs, INL Try.prog 69 fs ob [.arr n 0 xs.length, .fn F [] cap] (KQ ((.g (.int .i64 (idxZ q xs)))) (ob)) := by
 refine zlt Try.func69 (by rfl) (by rfl) (by rw [Try.ntmps69]; exact Nat.le_of_ble_eq_true rfl) (by rfl) (hok) fun fs => ?_
 rw [Try.ntmps69]
 refine AW_k [(0, _), (1, _)] ⟨rfl, rfl, trivial⟩ ?_
 refine AW_x rfl rfl fun K hK => ?_
 simp (disch := omega) [zbd, gE, tP, DtId.cells, List.range_succ, zb7, zcu, tupA, noTup, hob, cP]
 repeat' first | (refine zkc (hf xs[i] (List.getElem_mem _)) ?_; rintro _ _ ⟨rfl, rfl⟩; try simp (disch := omega) [zbd, gE, tP, DtId.cells, List.range_succ, zb7, zcu, tupA, noTup, hob, cP]) | (refine ⟨by omega, ?_⟩) | (intro _)
 refine hK _ ?_; clear hK K
 refine zbt ?_
 refine AW_x rfl rfl fun K hK => ?_
 simp (disch := omega) [zbd, gE, tP, DtId.cells, List.range_succ, zb7, zcu, tupA, noTup, hob, cP]
 repeat' first | (refine zkc (hf xs[i] (List.getElem_mem _)) ?_; rintro _ _ ⟨rfl, rfl⟩; try simp (disch := omega) [zbd, gE, tP, DtId.cells, List.range_succ, zb7, zcu, tupA, noTup, hob, cP]) | (refine ⟨by omega, ?_⟩) | (simp (disch := omega) [zbd, gE, tP, DtId.cells, List.range_succ, zb7, zcu, tupA, noTup, hob, cP]) | (intro _)
 refine hK _ ?_; clear hK K
 refine zb0 ?_
 refine zcc (fun mM sS => ∃ (i : Nat), mM = xs.length - i ∧ (i ≤ xs.length ∧ ∀ (j : Nat) x, j < i → xs[j]? = some x → q x = false) ∧ sS = { env := lkE [(0, .arr n 0 xs.length), (1, .fn F [] cap), (6, .arr n 0 xs.length), (7, (.g (.int .i64 ((xs.length : Nat))))), (8, (.g (.int .i64 ((i : Nat)))))], ob := ob }) ?_ ?_
 ·refine ⟨_, LeS.kp [(0, .arr n 0 xs.length), (1, .fn F [] cap), (6, .arr n 0 xs.length), (7, (.g (.int .i64 ((xs.length : Nat))))), (8, (.g (.int .i64 (((0) : Nat)))))] (by simp [KpE, zbn, zb4, zbk]; try rfl), _, 0, rfl, ?_, rfl⟩
  ·simp
 ·rintro mM sS ⟨i, rfl, ⟨hi, hpre⟩, rfl⟩
  refine AW_x rfl rfl fun K hK => ?_
  simp (disch := omega) [zbd, gE, tP, DtId.cells, List.range_succ, zb7, zcu, tupA, noTup, hob, cP]
  repeat' first | (refine zkc (hf xs[i] (List.getElem_mem _)) ?_; rintro _ _ ⟨rfl, rfl⟩; try simp (disch := omega) [zbd, gE, tP, DtId.cells, List.range_succ, zb7, zcu, tupA, noTup, hob, cP]) | (refine ⟨by omega, ?_⟩) | (intro _)
  refine hK _ ?_; clear hK K
  refine zbt ?_
  refine zbv rfl (fun hc2 => ?_) (fun hc2 => ?_)
  ·try simp [zbb, zba, zbf, zbe, zbp, zbq] at hc2
   all_goals
    have hg : xs[i]? = some xs[i] := List.getElem?_eq_getElem (by omega)
    refine zbw ?_
    refine zb3 ?_
    refine zbt ?_
    refine zb0 ?_
    refine AW_x rfl rfl fun K hK => ?_
    simp (disch := omega) [zbd, gE, tP, DtId.cells, List.range_succ, zb7, zcu, tupA, noTup, hob, cP]
    repeat' first | (exfalso; omega) | (refine zkc (hf xs[i] (List.getElem_mem _)) ?_; rintro _ _ ⟨rfl, rfl⟩; try simp (disch := omega) [zbd, gE, tP, DtId.cells, List.range_succ, zb7, zcu, tupA, noTup, hob, cP]) | (refine ⟨fun _ => ?_, fun _ => ?_⟩) | (refine ⟨by omega, ?_⟩) | (simp (disch := omega) [zbd, gE, tP, DtId.cells, List.range_succ, zb7, zcu, tupA, noTup, hob, cP]) | (intro _)
    all_goals (refine hK _ ?_; clear hK K)
    all_goals
     refine AW_x rfl rfl fun K hK => ?_
     simp (disch := omega) [zbd, gE, tP, DtId.cells, List.range_succ, zb7, zcu, tupA, noTup, hob, cP]
     repeat' first | (refine zkc (hf xs[i] (List.getElem_mem _)) ?_; rintro _ _ ⟨rfl, rfl⟩; try simp (disch := omega) [zbd, gE, tP, DtId.cells, List.range_succ, zb7, zcu, tupA, noTup, hob, cP]) | (refine ⟨by omega, ?_⟩) | (simp (disch := omega) [zbd, gE, tP, DtId.cells, List.range_succ, zb7, zcu, tupA, noTup, hob, cP]) | (intro _)
     refine hK _ ?_; clear hK K
     refine zbv rfl (fun hc3 => ?_) (fun hc3 => ?_)
     ·try simp [zbb, zba, zbf, zbe, zbp, zbq] at hc3
      all_goals
       refine AW_x rfl rfl fun K hK => ?_
       simp (disch := omega) [zbd, gE, tP, DtId.cells, List.range_succ, zb7, zcu, tupA, noTup, hob, cP]
       repeat' first | (exfalso; omega) | (refine zkc (hf xs[i] (List.getElem_mem _)) ?_; rintro _ _ ⟨rfl, rfl⟩; try simp (disch := omega) [zbd, gE, tP, DtId.cells, List.range_succ, zb7, zcu, tupA, noTup, hob, cP]) | (refine ⟨fun _ => ?_, fun _ => ?_⟩) | (refine ⟨by omega, ?_⟩) | (simp (disch := omega) [zbd, gE, tP, DtId.cells, List.range_succ, zb7, zcu, tupA, noTup, hob, cP]) | (intro _)
       all_goals (refine hK _ ?_; clear hK K)
       all_goals
        refine zbz (zlu ?_)
        simp (disch := omega) [zbd, gE, tP, DtId.cells, List.range_succ, zb7, zcu, tupA, noTup, hob, cP]
        all_goals first | (exact zdb (by assumption) (by assumption) hpre) | (exact zdl (fun j x h => hpre j x (by omega))) | trace_state
     ·try simp [zbb, zba, zbf, zbe, zbp, zbq] at hc3
      all_goals
       refine zbw ?_
       refine zb3 ?_
       refine zdx rfl rfl fun K hK => ?_
       simp (disch := omega) [zbd, gE, tP, DtId.cells, List.range_succ, zb7, zcu, tupA, noTup, hob, cP]
       repeat' first | (exfalso; omega) | (refine zkc (hf xs[i] (List.getElem_mem _)) ?_; rintro _ _ ⟨rfl, rfl⟩; try simp (disch := omega) [zbd, gE, tP, DtId.cells, List.range_succ, zb7, zcu, tupA, noTup, hob, cP]) | (refine ⟨fun _ => ?_, fun _ => ?_⟩) | (refine ⟨by omega, ?_⟩) | (simp (disch := omega) [zbd, gE, tP, DtId.cells, List.range_succ, zb7, zcu, tupA, noTup, hob, cP]) | (intro _)
       all_goals (refine hK _ ?_; clear hK K)
       all_goals
        refine ⟨_, LeS.kp [(0, .arr n 0 xs.length), (1, .fn F [] cap), (6, .arr n 0 xs.length), (7, (.g (.int .i64 ((xs.length : Nat))))), (8, (.g (.int .i64 (((i + 1) : Nat)))))] (by simp [KpE, zbn, zb4, zbk]; try rfl), _, ?_, i + 1, rfl, ?_, rfl⟩
        ·omega
        ·refine ⟨by omega, ?_⟩; grind
  ·try simp [zbb, zba, zbf, zbe, zbp, zbq] at hc2
   all_goals
    refine zce ?_
    refine zb3 ?_
    refine AW_x rfl rfl fun K hK => ?_
    simp (disch := omega) [zbd, gE, tP, DtId.cells, List.range_succ, zb7, zcu, tupA, noTup, hob, cP]
    repeat' first | (exfalso; omega) | (refine zkc (hf xs[i] (List.getElem_mem _)) ?_; rintro _ _ ⟨rfl, rfl⟩; try simp (disch := omega) [zbd, gE, tP, DtId.cells, List.range_succ, zb7, zcu, tupA, noTup, hob, cP]) | (refine ⟨fun _ => ?_, fun _ => ?_⟩) | (refine ⟨by omega, ?_⟩) | (simp (disch := omega) [zbd, gE, tP, DtId.cells, List.range_succ, zb7, zcu, tupA, noTup, hob, cP]) | (intro _)
    all_goals (refine hK _ ?_; clear hK K)
    all_goals
     refine zbz (zlu ?_)
     simp (disch := omega) [zbd, gE, tP, DtId.cells, List.range_succ, zb7, zcu, tupA, noTup, hob, cP]
     all_goals first | (exact zdb (by assumption) (by assumption) hpre) | (exact zdl (fun j x h => hpre j x (by omega))) | trace_state
theorem zh8 {α : Type} (q : α → Bool) (l : List α) : decide (0 ≤ idxZ q l) = l.any q := by
 rw [Bool.eq_iff_iff, List.any_eq_true]
 simp only [decide_eq_true_eq]
 unfold idxZ
 split
 ·rename_i i h
  obtain ⟨h1, h2, -⟩ := List.findIdx?_eq_some_iff_getElem.1 h
  exact ⟨fun _ => ⟨_, List.getElem_mem h1, h2⟩, fun _ => by omega⟩
 ·rename_i h
  rw [List.findIdx?_eq_none_iff] at h
  refine ⟨fun h => by omega, fun ⟨x, hx, hq⟩ => ?_⟩
  rw [h x hx] at hq; cases hq
theorem zph {ob : Nat → Option OB} {n : Nat} {F : FuncId} {cap : List AV} {q : List DtId → Bool} (xs : List (List DtId)) (hok : ObOk ob) (hob : ob n = some (.win 1 (xs.map cP))) (hn : xs.length ≤ 1048576) (hf : ∀ p ∈ xs, ∃ fs, INL Try.prog F fs ob (.sl 2 (p.map DtId.cells) :: cap) (KQ ((.g (.bool (q p)))) (ob))) : ∃ fs, INL Try.prog 66 fs ob [.arr n 0 xs.length, .fn F [] cap] (KQ ((.g (.bool (xs.any q)))) (ob)) := by
 refine zlt Try.func66 (by rfl) (by rfl) (by rw [Try.ntmps66]; exact Nat.le_of_ble_eq_true rfl) (by rfl) (hok) fun fs => ?_
 rw [Try.ntmps66]
 refine AW_k [(0, _), (1, _)] ⟨rfl, rfl, trivial⟩ ?_
 refine AW_x rfl rfl fun K hK => ?_
 simp (disch := omega) [zbd, gE, tP, DtId.cells, List.range_succ, zb7, zcu, tupA, noTup, zh8]
 repeat' first | (refine ⟨by omega, ?_⟩) | (intro _)
 refine hK _ ?_; clear hK K
 refine AW_x rfl rfl fun K hK => ?_
 simp (disch := omega) [zbd, gE, tP, DtId.cells, List.range_succ, zb7, zcu, tupA, noTup, zh8]
 repeat' first | (exfalso; omega) | (refine zkc (zm3 (q := q) xs hok hob hn hf) ?_; rintro _ _ ⟨rfl, rfl⟩; simp (disch := omega) [zbd, gE, tP, DtId.cells, List.range_succ, zb7, zcu, tupA, noTup, zh8]) | (refine ⟨by omega, ?_⟩) | (simp (disch := omega) [zbd, gE, tP, DtId.cells, List.range_succ, zb7, zcu, tupA, noTup, zh8]) | (intro _)
 refine hK _ ?_; clear hK K
 refine zbz (zlu ?_)
 simp (disch := omega) [zbd, gE, tP, DtId.cells, List.range_succ, zb7, zcu, tupA, noTup, zh8]
 all_goals trace_state
theorem parts1 {ob : Nat → Option OB} {m : Nat} (x : DtInst) (p : List DtId) (hok : ObOk ob) (hx : ob m = some (.cells (DtInst.cells x))) (hp : p.length ≤ 1048576) : ∃ fs, INL Try.prog 67 fs ob [.sl 2 (p.map DtId.cells), .ptr m 0] (KQ ((.g (.bool (decB (x.fId ∈ p))))) (ob)) := by
 refine zlt Try.func67 (by rfl) (by rfl) (by rw [Try.ntmps67]; exact Nat.le_of_ble_eq_true rfl) (by rfl) (hok) fun fs => ?_
 rw [Try.ntmps67]
 refine AW_k [(0, _), (1, _)] ⟨rfl, rfl, trivial⟩ ?_
 refine AW_x rfl rfl fun K hK => ?_
 simp (disch := omega) [zbd, gE, tP, DtId.cells, List.range_succ, zb7, zcu, tupA, noTup, hx, DtInst.cells, DtCmd.cells]
 repeat' first | (refine ⟨by omega, ?_⟩) | (intro _)
 refine hK _ ?_; clear hK K
 refine AW_x rfl rfl fun K hK => ?_
 simp (disch := omega) [zbd, gE, tP, DtId.cells, List.range_succ, zb7, zcu, tupA, noTup, hx, DtInst.cells, DtCmd.cells]
 repeat' first | (exfalso; omega) | (refine zd1 (zbg zca (zbg (zb6 rfl) zbr)) (zds p x.fId hp) rfl ?_; simp (disch := omega) [zbd, gE, tP, DtId.cells, List.range_succ, zb7, zcu, tupA, noTup, hx, DtInst.cells, DtCmd.cells]) | (refine zd2 (zds p x.fId hp) (by rfl) ?_ ?_; (focus (simp (disch := omega) [zbd, gE, tP, DtId.cells, List.range_succ, zb7, zcu, tupA, noTup, hx, DtInst.cells, DtCmd.cells, zbc]; done)); simp (disch := omega) [zbd, gE, tP, DtId.cells, List.range_succ, zb7, zcu, tupA, noTup, hx, DtInst.cells, DtCmd.cells]) | (refine ⟨by omega, ?_⟩) | (simp (disch := omega) [zbd, gE, tP, DtId.cells, List.range_succ, zb7, zcu, tupA, noTup, hx, DtInst.cells, DtCmd.cells]) | (intro _)
 refine hK _ ?_; clear hK K
 refine zbz (zlu ?_)
 simp (disch := omega) [zbd, gE, tP, DtId.cells, List.range_succ, zb7, zcu, tupA, noTup, hx, DtInst.cells, DtCmd.cells]
 all_goals trace_state
end Go.Proofs.Ytfbmhgiokfpgiaa.Vs

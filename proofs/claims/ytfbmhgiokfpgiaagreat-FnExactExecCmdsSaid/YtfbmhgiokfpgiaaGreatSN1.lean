import Derived.Test.YtfbmhgiokfpgiaaGreatSCT
open Go Go.Proofs Go.Proofs.YtfbmhgiokfpgiaaGreat.Vs
namespace Go.Proofs.YtfbmhgiokfpgiaaGreat.Vs
set_option linter.all false
set_option linter.unusedSimpArgs false
set_option linter.unusedVariables false
set_option maxRecDepth 100000
/-- Marks. -/
def mkL {α : Type} (f : Int → α) (k : Int) (n : Nat) : List α := (List.range n).map fun j => f (k + (j : Nat))
def mkR {α : Type} (f : Int → α) (k : Int) (l : List α) (i : Nat) : List α := mkL f k i ++ l.drop i
theorem zd8 {α : Type} (f : Int → α) (k : Int) (n : Nat) : (mkL f k n).length = n := by simp [mkL]
theorem mkR_len {α : Type} (f : Int → α) (k : Int) (l : List α) (i : Nat) (h : i ≤ l.length) : (mkR f k l i).length = l.length := by simp [mkR, zd8]; omega
theorem mkR_0 {α : Type} (f : Int → α) (k : Int) (l : List α) : mkR f k l 0 = l := by simp [mkR, mkL]
theorem zmp {α : Type} (f : Int → α) (k : Int) (l : List α) (i : Nat) (h : l.length ≤ i) (hi : i ≤ l.length) : mkR f k l i = mkL f k l.length := by
 have : i = l.length := by omega
 subst this
 simp [mkR]
theorem zty {α : Type} (f : Int → α) (k : Int) (n j : Nat) (h : j < n) : (mkL f k n)[j]? = some (f (k + (j : Nat))) := by
 simp [mkL, h]
theorem zg8 {α : Type} (f : Int → α) (k : Int) (n j : Nat) (h : j < (mkL f k n).length) : (mkL f k n)[j] = f (k + (j : Nat)) := by
 simp [mkL]
theorem mkR_get {α : Type} (f : Int → α) (k : Int) (l : List α) (i : Nat) (h : i < l.length) : (mkR f k l i)[i]? = some l[i] := by
 unfold mkR
 rw [List.getElem?_append_right (by simp [zd8])]
 simp [zd8, h]
theorem mkR_set {α : Type} (f : Int → α) (k : Int) (l : List α) (i : Nat) (h : i < l.length) : (mkR f k l i).set i (f (k + (i : Nat))) = mkR f k l (i + 1) := by
 apply List.ext_getElem?
 intro j
 unfold mkR
 rw [List.getElem?_set]
 by_cases hj : i = j
 ·subst hj
  rw [if_pos rfl, if_pos (by simp [zd8]; omega), List.getElem?_append_left (by simp [zd8])]
  rw [zty _ _ _ _ (by omega)]
 ·rw [if_neg hj]
  by_cases hlt : j < i
  ·rw [List.getElem?_append_left (by simp [zd8]; omega), List.getElem?_append_left (by simp [zd8]; omega), zty _ _ _ _ hlt, zty _ _ _ _ (by omega)]
  ·rw [List.getElem?_append_right (by simp [zd8]; omega), List.getElem?_append_right (by simp [zd8]; omega)]
   simp [zd8]
   congr 1
   omega
def mB (k : Int) : Bool := k.tmod 3 == 0
/-- Decimal digits. -/
def dg (n : Nat) (out : List UInt8) : List UInt8 := if n = 0 then out else dg (n / 10) (strN [IntKind.u8.wrap (48 + (n : Int) % 10)] ++ out)
termination_by n
decreasing_by omega
def mT (k : Int) : List UInt8 := if k ≤ 0 then [109, 48] else 109 :: dg k.toNat []
theorem zdb (k : Int) (hk : k ≤ 4294967296) : PCall Tryz.prog 21 [(.g (.int .i64 (k)))] (.s (mT k)) := by
 refine zbz Tryz.func21 (by rfl) (by rfl) (by rw [Tryz.ntmps21]; exact Nat.le_of_ble_eq_true rfl) rfl (by decide) ?_
 rw [Tryz.ntmps21]
 refine AW_k [(0, _)] ⟨rfl, trivial⟩ ?_
 refine AW_r rfl rfl fun K hK => ?_
 simp (disch := omega) [zbd, List.getElem?_eq_getElem, zb9, Int.tdiv_eq_ediv_of_nonneg, Int.tmod_eq_emod_of_nonneg, numsOf]
 repeat' first | (refine ⟨by simp [strN]; omega, ?_⟩; try simp (disch := omega) [zbd, List.getElem?_eq_getElem, zb9, Int.tdiv_eq_ediv_of_nonneg, Int.tmod_eq_emod_of_nonneg, numsOf]) | (refine ⟨by omega, ?_⟩) | (intro _)
 refine hK _ ?_; clear hK K
 refine zbr ?_
 refine AW_r rfl rfl fun K hK => ?_
 simp (disch := omega) [zbd, List.getElem?_eq_getElem, zb9, Int.tdiv_eq_ediv_of_nonneg, Int.tmod_eq_emod_of_nonneg, numsOf]
 repeat' first | (refine ⟨by simp [strN]; omega, ?_⟩; try simp (disch := omega) [zbd, List.getElem?_eq_getElem, zb9, Int.tdiv_eq_ediv_of_nonneg, Int.tmod_eq_emod_of_nonneg, numsOf]) | (refine ⟨by omega, ?_⟩) | (intro _)
 refine hK _ ?_; clear hK K
 refine zbu rfl (fun hc1 => ?_) (fun hc1 => ?_)
 ·try simp at hc1
  all_goals
   refine AW_r rfl rfl fun K hK => ?_
   simp (disch := omega) [zbd, List.getElem?_eq_getElem, zb9, Int.tdiv_eq_ediv_of_nonneg, Int.tmod_eq_emod_of_nonneg, numsOf]
   repeat' first | (exfalso; omega) | (refine ⟨by simp [strN]; omega, ?_⟩; try simp (disch := omega) [zbd, List.getElem?_eq_getElem, zb9, Int.tdiv_eq_ediv_of_nonneg, Int.tmod_eq_emod_of_nonneg, numsOf]) | (refine ⟨fun _ => ?_, fun _ => ?_⟩) | (refine ⟨by omega, ?_⟩) | (intro _)
   all_goals (refine hK _ ?_; clear hK K)
   all_goals
    refine zby (zcd ?_)
    simp (disch := omega) [zbd, List.getElem?_eq_getElem, zb9, Int.tdiv_eq_ediv_of_nonneg, Int.tmod_eq_emod_of_nonneg, numsOf]
    all_goals first | (unfold mT; rw [if_pos (by omega)]; done) | (obtain rfl : n = 0 := (by omega); unfold mT; rw [if_neg (by omega), ← hd] <;> (unfold dg; simp); done)
 try simp at hc1
 refine zbv ?_
 refine zb4 ?_
 refine AW_r rfl rfl fun K hK => ?_
 simp (disch := omega) [zbd, List.getElem?_eq_getElem, zb9, Int.tdiv_eq_ediv_of_nonneg, Int.tmod_eq_emod_of_nonneg, numsOf]
 repeat' first | (exfalso; omega) | (refine ⟨by simp [strN]; omega, ?_⟩; try simp (disch := omega) [zbd, List.getElem?_eq_getElem, zb9, Int.tdiv_eq_ediv_of_nonneg, Int.tmod_eq_emod_of_nonneg, numsOf]) | (refine ⟨fun _ => ?_, fun _ => ?_⟩) | (refine ⟨by omega, ?_⟩) | (intro _)
 all_goals (refine hK _ ?_; clear hK K)
 all_goals
  refine zbr ?_
  refine zb0 ?_
  refine zcf (fun mM sS => ∃ (n : Nat) (out : List UInt8), mM = n + 1 ∧ (n + out.length ≤ k.toNat ∧ dg n out = dg k.toNat []) ∧ sS = { env := lkE [(0, (.g (.int .i64 ((n : Nat))))), (3, .s out)], ob := lk [] }) ?_ ?_
  ·refine ⟨_, LeS.ko [(0, (.g (.int .i64 (((k.toNat) : Nat))))), (3, .s ([]))] [] (by simp [KpE, zbl, zb5, zbi]; try (first | rfl | (omega; done))) (by simp [KpO, zbl, zbi, zbp, zcj]; try rfl) (by rfl) (by simp) (by rfl), _, k.toNat, [], rfl, ?_, rfl⟩
   ·simp
  ·rintro mM sS ⟨n, out, rfl, ⟨hi, hd⟩, rfl⟩
   refine zbr ?_
   refine AW_r rfl rfl fun K hK => ?_
   simp (disch := omega) [zbd, List.getElem?_eq_getElem, zb9, Int.tdiv_eq_ediv_of_nonneg, Int.tmod_eq_emod_of_nonneg, numsOf]
   repeat' first | (refine ⟨by simp [strN]; omega, ?_⟩; try simp (disch := omega) [zbd, List.getElem?_eq_getElem, zb9, Int.tdiv_eq_ediv_of_nonneg, Int.tmod_eq_emod_of_nonneg, numsOf]) | (refine ⟨by omega, ?_⟩) | (intro _)
   refine hK _ ?_; clear hK K
   refine zbu rfl (fun hc2 => ?_) (fun hc2 => ?_)
   ·try simp at hc2
    all_goals
     refine zbv ?_
     refine zb4 ?_
     refine zb0 ?_
     refine AW_r rfl rfl fun K hK => ?_
     simp (disch := omega) [zbd, List.getElem?_eq_getElem, zb9, Int.tdiv_eq_ediv_of_nonneg, Int.tmod_eq_emod_of_nonneg, numsOf]
     repeat' first | (exfalso; omega) | (refine ⟨by simp [strN]; omega, ?_⟩; try simp (disch := omega) [zbd, List.getElem?_eq_getElem, zb9, Int.tdiv_eq_ediv_of_nonneg, Int.tmod_eq_emod_of_nonneg, numsOf]) | (refine ⟨fun _ => ?_, fun _ => ?_⟩) | (refine ⟨by omega, ?_⟩) | (intro _)
     all_goals (refine hK _ ?_; clear hK K)
     all_goals
      refine zdi rfl rfl fun K hK => ?_
      simp (disch := omega) [zbd, List.getElem?_eq_getElem, zb9, Int.tdiv_eq_ediv_of_nonneg, Int.tmod_eq_emod_of_nonneg, numsOf]
      repeat' first | (refine ⟨by simp [strN]; omega, ?_⟩; try simp (disch := omega) [zbd, List.getElem?_eq_getElem, zb9, Int.tdiv_eq_ediv_of_nonneg, Int.tmod_eq_emod_of_nonneg, numsOf]) | (refine ⟨by omega, ?_⟩) | (intro _)
      refine hK _ ?_; clear hK K
      refine ⟨_, LeS.ko [(0, (.g (.int .i64 (((n / 10) : Nat))))), (3, .s (strN [IntKind.u8.wrap (48 + (n : Int) % 10)] ++ out))] [] (by simp [KpE, zbl, zb5, zbi]; try (first | rfl | (omega; done))) (by simp [KpO, zbl, zbi, zbp, zcj]; try rfl) (by rfl) (by simp) (by rfl), _, ?_, n / 10, strN [IntKind.u8.wrap (48 + (n : Int) % 10)] ++ out, rfl, ?_, rfl⟩
      ·omega
      ·refine ⟨by simp [strN]; omega, ?_⟩; rw [← hd]; conv => rhs; unfold dg; rw [if_neg (by omega)]
   try simp at hc2
   refine zch ?_
   refine zb4 ?_
   refine AW_r rfl rfl fun K hK => ?_
   simp (disch := omega) [zbd, List.getElem?_eq_getElem, zb9, Int.tdiv_eq_ediv_of_nonneg, Int.tmod_eq_emod_of_nonneg, numsOf]
   repeat' first | (exfalso; omega) | (refine ⟨by simp [strN]; omega, ?_⟩; try simp (disch := omega) [zbd, List.getElem?_eq_getElem, zb9, Int.tdiv_eq_ediv_of_nonneg, Int.tmod_eq_emod_of_nonneg, numsOf]) | (refine ⟨fun _ => ?_, fun _ => ?_⟩) | (refine ⟨by omega, ?_⟩) | (intro _)
   all_goals (refine hK _ ?_; clear hK K)
   all_goals
    refine zby (zcd ?_)
    simp (disch := omega) [zbd, List.getElem?_eq_getElem, zb9, Int.tdiv_eq_ediv_of_nonneg, Int.tmod_eq_emod_of_nonneg, numsOf]
    all_goals first | (unfold mT; rw [if_pos (by omega)]; done) | (obtain rfl : n = 0 := (by omega); unfold mT; rw [if_neg (by omega), ← hd] <;> (unfold dg; simp); done)
theorem zv7 (k : Int) (l : List (List UInt8)) (i : Nat) (h : i < l.length) : ((mkR mT k l i).map cS).set i [.s (mT (k + (i : Nat)))] = (mkR mT k l (i + 1)).map cS := by
 rw [← mkR_set mT k l i h, List.map_set]; rfl
theorem zmq (l : List (List UInt8)) (k : Int) (hl : l.length ≤ 1048576) (hk : 0 ≤ k ∧ k ≤ 1073741824) : XCall Tryz.prog 22 [.arr 8 0 l.length, (.g (.int .i64 (k)))] [.own 1 (l.map cS)] (.g (.int .i64 (k + (l.length : Nat)))) [.own 1 ((mkL mT k l.length).map cS)] [] := by
 refine zcg Tryz.func22 (by rfl) (by rfl) (by rw [Tryz.ntmps22]; exact Nat.le_of_ble_eq_true rfl) rfl (by simp) rfl rfl ?_
 rw [Tryz.ntmps22]
 refine AW_x1 (.win 1 (l.map cS)) (by simp [cvO] <;> assumption) ?_
 refine AW_k [(0, _), (1, _)] ⟨rfl, rfl, trivial⟩ ?_
 refine AW_x rfl rfl fun K hK => ?_
 simp (disch := omega) [zbd, List.getElem?_eq_getElem, zb9, cS, zmp]
 repeat' first | (refine ⟨by omega, ?_⟩) | (intro _)
 refine hK _ ?_; clear hK K
 refine zbr ?_
 refine AW_x rfl rfl fun K hK => ?_
 simp (disch := omega) [zbd, List.getElem?_eq_getElem, zb9, cS, zmp]
 repeat' first | (refine ⟨by omega, ?_⟩) | (intro _)
 refine hK _ ?_; clear hK K
 refine zb0 ?_
 refine zcf (fun mM sS => ∃ (i : Nat), mM = l.length - i ∧ (i ≤ l.length) ∧ sS = { env := lkE [(0, .arr 8 0 l.length), (1, (.g (.int .i64 (k + (i : Nat))))), (5, (.g (.int .i64 ((i : Nat)))))], ob := lk [(8, .win 1 ((mkR mT k l i).map cS))] }) ?_ ?_
 ·refine ⟨_, LeS.kx [(8, 8)] [(0, .arr 8 0 l.length), (1, (.g (.int .i64 (k + ((0) : Nat))))), (5, (.g (.int .i64 (((0) : Nat)))))] [(8, .win 1 ((mkR mT k l (0)).map cS))] (by simp [KpR, renV2, renV, zbl, zb5, zbi, zbp, mkR_0]; try (first | rfl | (omega; done))) (by simp [KpOX, renO, plO, cvO, renV, pl1, zbi, zbp, zbl, mkR_0]; try (first | rfl | (simp [zv7 k l i (by omega)]; done))) (by rfl) (by simp) (by simp) (by rfl) (by simp [formsX, List.range_succ, zbi, zbp]), _, 0, rfl, ?_, rfl⟩
  ·simp
 ·rintro mM sS ⟨i, rfl, hi, rfl⟩
  have hln : (mkR mT k l i).length = l.length := mkR_len _ _ _ _ hi
  refine zbr ?_
  refine AW_x rfl rfl fun K hK => ?_
  simp (disch := omega) [zbd, List.getElem?_eq_getElem, zb9, cS, zmp]
  repeat' first | (refine ⟨by omega, ?_⟩) | (intro _)
  refine hK _ ?_; clear hK K
  refine zbu rfl (fun hc3 => ?_) (fun hc3 => ?_)
  ·try simp at hc3
   all_goals
    have hg : (mkR mT k l i)[i]? = some (l[i]) := mkR_get _ _ _ _ (by omega)
    refine zbv ?_
    refine zb4 ?_
    refine zbr ?_
    refine zb0 ?_
    refine AW_x rfl rfl fun K hK => ?_
    simp (disch := omega) [zbd, List.getElem?_eq_getElem, zb9, cS, zmp]
    repeat' first | (exfalso; omega) | (refine zde (zbh zcx zbs) (zdb _ (by omega)) rfl ?_; simp (disch := omega) [zbd, List.getElem?_eq_getElem, zb9, cS, zmp]) | (refine zdf (zdb _ (by omega)) (by rfl) ?_ ?_; (focus (simp (disch := omega) [zbd, List.getElem?_eq_getElem, zb9, cS, zmp, zba]; done)); simp (disch := omega) [zbd, List.getElem?_eq_getElem, zb9, cS, zmp]) | (refine ⟨fun _ => ?_, fun _ => ?_⟩) | (refine ⟨by omega, ?_⟩) | (intro _)
    all_goals (refine hK _ ?_; clear hK K)
    all_goals
     refine zdd rfl rfl fun K hK => ?_
     simp (disch := omega) [zbd, List.getElem?_eq_getElem, zb9, cS, zmp]
     repeat' first | (refine ⟨by omega, ?_⟩) | (intro _)
     refine hK _ ?_; clear hK K
     refine zb4 ?_
     refine zdd rfl rfl fun K hK => ?_
     simp (disch := omega) [zbd, List.getElem?_eq_getElem, zb9, cS, zmp]
     repeat' first | (refine ⟨by omega, ?_⟩) | (intro _)
     refine hK _ ?_; clear hK K
     refine ⟨_, LeS.kx [(8, 8)] [(0, .arr 8 0 l.length), (1, (.g (.int .i64 (k + ((i + 1) : Nat))))), (5, (.g (.int .i64 (((i + 1) : Nat)))))] [(8, .win 1 ((mkR mT k l (i + 1)).map cS))] (by simp [KpR, renV2, renV, zbl, zb5, zbi, zbp, mkR_0]; try (first | rfl | (omega; done))) (by simp [KpOX, renO, plO, cvO, renV, pl1, zbi, zbp, zbl, mkR_0]; try (first | rfl | (simp [zv7 k l i (by omega)]; done))) (by rfl) (by simp) (by simp) (by rfl) (by simp [formsX, List.range_succ, zbi, zbp]), _, ?_, i + 1, rfl, ?_, rfl⟩
     ·omega
     ·omega
  try simp at hc3
  refine zch ?_
  refine zb4 ?_
  refine AW_x rfl rfl fun K hK => ?_
  simp (disch := omega) [zbd, List.getElem?_eq_getElem, zb9, cS, zmp]
  repeat' first | (exfalso; omega) | (refine ⟨fun _ => ?_, fun _ => ?_⟩) | (refine ⟨by omega, ?_⟩) | (intro _)
  all_goals (refine hK _ ?_; clear hK K)
  all_goals
   refine zby (zdm [] [] (by simp [List.range_succ, zbi, zbp, zbl]) (by simp) ?_)
   simp (disch := omega) [zbd, List.getElem?_eq_getElem, zb9, cS, zmp]
   all_goals omega
theorem ztz (n : Nat) (k : Int) (hl : n ≤ 1048576) (hk : 0 ≤ k ∧ k ≤ 1073741824) : PCall Tryz.prog 24 [.sl 1 ((mkL mT k n).map cS), (.g (.int .i64 (k)))] (.g (.int .i64 (k + (n : Nat)))) := by
 refine zbz Tryz.func24 (by rfl) (by rfl) (by rw [Tryz.ntmps24]; exact Nat.le_of_ble_eq_true rfl) rfl (by decide) ?_
 rw [Tryz.ntmps24]
 refine AW_k [(0, _), (1, _)] ⟨rfl, rfl, trivial⟩ ?_
 refine AW_r rfl rfl fun K hK => ?_
 simp (disch := omega) [zbd, List.getElem?_eq_getElem, zb9, cS, zg8]
 repeat' first | (refine ⟨by omega, ?_⟩) | (intro _)
 refine hK _ ?_; clear hK K
 refine zbr ?_
 refine AW_r rfl rfl fun K hK => ?_
 simp (disch := omega) [zbd, List.getElem?_eq_getElem, zb9, cS, zg8]
 repeat' first | (refine ⟨by omega, ?_⟩) | (intro _)
 refine hK _ ?_; clear hK K
 refine zb0 ?_
 refine zcf (fun mM sS => ∃ (i : Nat), mM = n - i ∧ (i ≤ n) ∧ sS = { env := lkE [(0, .sl 1 ((mkL mT k n).map cS)), (1, (.g (.int .i64 (k + (i : Nat))))), (5, (.g (.int .i64 ((i : Nat)))))], ob := formOb [] [] }) ?_ ?_
 ·refine ⟨_, LeS.kp [(0, .sl 1 ((mkL mT k n).map cS)), (1, (.g (.int .i64 (k + ((0) : Nat))))), (5, (.g (.int .i64 (((0) : Nat)))))] (by simp [KpE, zbl, zb5, zbi]; try (first | rfl | (omega; done))), _, 0, rfl, ?_, rfl⟩
  ·simp
 ·rintro mM sS ⟨i, rfl, hi, rfl⟩
  have hln : (mkL mT k n).length = n := zd8 _ _ _
  refine zbr ?_
  refine AW_r rfl rfl fun K hK => ?_
  simp (disch := omega) [zbd, List.getElem?_eq_getElem, zb9, cS, zg8]
  repeat' first | (refine ⟨by omega, ?_⟩) | (intro _)
  refine hK _ ?_; clear hK K
  refine zbu rfl (fun hc4 => ?_) (fun hc4 => ?_)
  ·try simp at hc4
   all_goals
    refine zbv ?_
    refine zb4 ?_
    refine zbr ?_
    refine zb0 ?_
    refine zbr ?_
    refine AW_q rfl mix (by kernel_rfl) rfl fun K hK => ?_
    simp (disch := omega) [zbd, List.getElem?_eq_getElem, zb9, cS, zg8]
    repeat' first | (exfalso; omega) | (refine zco (zbh zcx zbs) (zdb _ (by omega)) rfl ?_; simp (disch := omega) [zbd, List.getElem?_eq_getElem, zb9, cS, zg8]) | (refine ⟨fun _ => ?_, fun _ => ?_⟩) | (refine ⟨by omega, ?_⟩) | (intro _)
    all_goals (refine hK _ ?_; clear hK K)
    all_goals
     refine zbu rfl (fun hc5 => ?_) (fun hc5 => ?_)
     ·try simp at hc5
      all_goals
       refine AW_r rfl rfl fun K hK => ?_
       simp (disch := omega) [zbd, List.getElem?_eq_getElem, zb9, cS, zg8]
       repeat' first | (exfalso; omega) | (refine ⟨fun _ => ?_, fun _ => ?_⟩) | (refine ⟨by omega, ?_⟩) | (intro _)
       all_goals (refine hK _ ?_; clear hK K)
       all_goals
        refine zby (zcd ?_)
        simp (disch := omega) [zbd, List.getElem?_eq_getElem, zb9, cS, zg8]
        all_goals omega
     try simp at hc5
     refine zbv ?_
     refine zb4 ?_
     refine zdi rfl rfl fun K hK => ?_
     simp (disch := omega) [zbd, List.getElem?_eq_getElem, zb9, cS, zg8]
     repeat' first | (exfalso; omega) | (refine ⟨fun _ => ?_, fun _ => ?_⟩) | (refine ⟨by omega, ?_⟩) | (intro _)
     all_goals (refine hK _ ?_; clear hK K)
     all_goals
      refine zb4 ?_
      refine zdi rfl rfl fun K hK => ?_
      simp (disch := omega) [zbd, List.getElem?_eq_getElem, zb9, cS, zg8]
      repeat' first | (refine ⟨by omega, ?_⟩) | (intro _)
      refine hK _ ?_; clear hK K
      refine ⟨_, LeS.kp [(0, .sl 1 ((mkL mT k n).map cS)), (1, (.g (.int .i64 (k + ((i + 1) : Nat))))), (5, (.g (.int .i64 (((i + 1) : Nat)))))] (by simp [KpE, zbl, zb5, zbi]; try (first | rfl | (omega; done))), _, ?_, i + 1, rfl, ?_, rfl⟩
      ·omega
      ·omega
  try simp at hc4
  refine zch ?_
  refine zb4 ?_
  refine AW_r rfl rfl fun K hK => ?_
  simp (disch := omega) [zbd, List.getElem?_eq_getElem, zb9, cS, zg8]
  repeat' first | (exfalso; omega) | (refine ⟨fun _ => ?_, fun _ => ?_⟩) | (refine ⟨by omega, ?_⟩) | (intro _)
  all_goals (refine hK _ ?_; clear hK K)
  all_goals
   refine zby (zcd ?_)
   simp (disch := omega) [zbd, List.getElem?_eq_getElem, zb9, cS, zg8]
   all_goals omega
/-- A copy under way. -/
def cpR {α : Type} (z : α) (l : List α) (i : Nat) : List α := l.take i ++ List.replicate (l.length - i) z
theorem cpR_len {α : Type} (z : α) (l : List α) (i : Nat) (h : i ≤ l.length) : (cpR z l i).length = l.length := by simp [cpR]; omega
theorem cpR_0 {α : Type} (z : α) (l : List α) : cpR z l 0 = List.replicate l.length z := by simp [cpR]
theorem cpR_n {α : Type} (z : α) (l : List α) (i : Nat) (h : l.length ≤ i) : cpR z l i = l := by
 unfold cpR
 rw [List.take_of_length_le h, show l.length - i = 0 by omega]
 simp
theorem cpR_set {α : Type} (z : α) (l : List α) (i : Nat) (h : i < l.length) : (cpR z l i).set i l[i] = cpR z l (i + 1) := by
 apply List.ext_getElem?
 intro j
 unfold cpR
 rw [List.getElem?_set]
 by_cases hj : i = j
 ·subst hj
  rw [if_pos rfl, if_pos (by simp; omega), List.getElem?_append_left (by simp; omega)]
  simp [h]
 ·rw [if_neg hj]
  by_cases hlt : j < i
  ·rw [List.getElem?_append_left (by simp; omega), List.getElem?_append_left (by simp; omega)]
   simp [hlt, show j < i + 1 by omega]
  ·rw [List.getElem?_append_right (by simp; omega), List.getElem?_append_right (by simp; omega)]
   simp only [List.length_take, List.getElem?_replicate]
   congr 1
   simp
   omega
theorem cpR_get {α : Type} (z : α) (l : List α) (i : Nat) (h : i < l.length) : (cpR z l i)[i]? = some z := by
 unfold cpR
 rw [List.getElem?_append_right (by simp; omega), List.getElem?_replicate]
 simp; omega
theorem zv8 (l : List (List UInt8)) (i : Nat) (h : i < l.length) : ((cpR [] l i).map cS).set i [.s l[i]] = (cpR [] l (i + 1)).map cS := by
 rw [← cpR_set [] l i h, List.map_set]; rfl
theorem zxj (l : List (List UInt8)) (hl : l.length ≤ 1048576) : XCall Tryz.prog 45 [.sl 1 (l.map cS)] [] (.arr 16 0 l.length) [] [.own 1 (l.map cS)] := by
 refine zcg Tryz.func45 (by rfl) (by rfl) (by rw [Tryz.ntmps45]; exact Nat.le_of_ble_eq_true rfl) rfl (by simp) rfl rfl ?_
 rw [Tryz.ntmps45]
 refine zfb   ?_
 refine AW_k [(0, _)] ⟨rfl, trivial⟩ ?_
 refine AW_x rfl rfl fun K hK => ?_
 simp (disch := omega) [zbd, List.getElem?_eq_getElem, zb9, cS]
 repeat' first | (refine ⟨by omega, ?_⟩) | (intro _)
 refine hK _ ?_; clear hK K
 refine AW_x rfl rfl fun K hK => ?_
 simp (disch := omega) [zbd, List.getElem?_eq_getElem, zb9, cS]
 repeat' first | (refine ⟨by omega, ?_⟩) | (intro _)
 refine hK _ ?_; clear hK K
 refine zbr ?_
 refine AW_x rfl rfl fun K hK => ?_
 simp (disch := omega) [zbd, List.getElem?_eq_getElem, zb9, cS]
 repeat' first | (refine ⟨by omega, ?_⟩) | (intro _)
 refine hK _ ?_; clear hK K
 refine zb0 ?_
 refine zcf (fun mM sS => ∃ (i : Nat), mM = l.length - i ∧ (i ≤ l.length) ∧ sS = { env := lkE [(0, .sl 1 (l.map cS)), (3, .arr 128 0 l.length), (4, (.g (.int .i64 ((i : Nat)))))], ob := lk [(128, .flat 1 ((cpR [] l i).map cS))] }) ?_ ?_
 ·refine ⟨_, LeS.kx [(128, 128)] [(0, .sl 1 (l.map cS)), (3, .arr 128 0 l.length), (4, (.g (.int .i64 (((0) : Nat)))))] [(128, .flat 1 ((cpR [] l (0)).map cS))] (by simp [KpR, renV2, renV, zbl, zb5, zbi, zbp, cpR_0, cS]; try (first | rfl | (omega; done))) (by simp [KpOX, renO, plO, cvO, renV, pl1, zbi, zbp, zbl, cpR_0, cS]; try (first | rfl | (simp [zv8 l i (by omega)]; done))) (by rfl) (by simp) (by simp) (by rfl) (by simp [formsX, List.range_succ, zbi, zbp]), _, 0, rfl, ?_, rfl⟩
  ·simp
 ·rintro mM sS ⟨i, rfl, hi, rfl⟩
  have hln : (cpR [] l i).length = l.length := cpR_len _ _ _ hi
  refine zbr ?_
  refine AW_x rfl rfl fun K hK => ?_
  simp (disch := omega) [zbd, List.getElem?_eq_getElem, zb9, cS]
  repeat' first | (refine ⟨by omega, ?_⟩) | (intro _)
  refine hK _ ?_; clear hK K
  refine zbu rfl (fun hc6 => ?_) (fun hc6 => ?_)
  ·try simp at hc6
   all_goals
    have hg : (cpR [] l i)[i]? = some [] := cpR_get _ _ _ (by omega)
    refine zbv ?_
    refine zb4 ?_
    refine zbr ?_
    refine zb0 ?_
    refine zdd rfl rfl fun K hK => ?_
    simp (disch := omega) [zbd, List.getElem?_eq_getElem, zb9, cS]
    repeat' first | (exfalso; omega) | (refine ⟨fun _ => ?_, fun _ => ?_⟩) | (refine ⟨by omega, ?_⟩) | (intro _)
    all_goals (refine hK _ ?_; clear hK K)
    all_goals
     refine zb4 ?_
     refine zdd rfl rfl fun K hK => ?_
     simp (disch := omega) [zbd, List.getElem?_eq_getElem, zb9, cS]
     repeat' first | (refine ⟨by omega, ?_⟩) | (intro _)
     refine hK _ ?_; clear hK K
     refine ⟨_, LeS.kx [(128, 128)] [(0, .sl 1 (l.map cS)), (3, .arr 128 0 l.length), (4, (.g (.int .i64 (((i + 1) : Nat)))))] [(128, .flat 1 ((cpR [] l (i + 1)).map cS))] (by simp [KpR, renV2, renV, zbl, zb5, zbi, zbp, cpR_0, cS]; try (first | rfl | (omega; done))) (by simp [KpOX, renO, plO, cvO, renV, pl1, zbi, zbp, zbl, cpR_0, cS]; try (first | rfl | (simp [zv8 l i (by omega)]; done))) (by rfl) (by simp) (by simp) (by rfl) (by simp [formsX, List.range_succ, zbi, zbp]), _, ?_, i + 1, rfl, ?_, rfl⟩
     ·omega
     ·omega
  try simp at hc6
  refine zch ?_
  refine zb4 ?_
  refine AW_x rfl rfl fun K hK => ?_
  simp (disch := omega) [zbd, List.getElem?_eq_getElem, zb9, cS]
  repeat' first | (exfalso; omega) | (refine ⟨fun _ => ?_, fun _ => ?_⟩) | (refine ⟨by omega, ?_⟩) | (intro _)
  all_goals (refine hK _ ?_; clear hK K)
  all_goals
   refine zby (zdm [128] [] (by simp [List.range_succ, zbi, zbp, zbl]) (by simp) ?_)
   simp (disch := omega) [zbd, List.getElem?_eq_getElem, zb9, cS]
   all_goals (rw [cpR_n _ _ _ (by omega)])
/-- Marks of a row of structs. -/
def mkS {α : Type} (mk : Int → α → α) (cnt : α → Int) : Int → List α → List α
 | _, [] => []
 | k, u :: us => mk k u :: mkS mk cnt (k + cnt u) us
def cntS {α : Type} (cnt : α → Int) (us : List α) : Int := us.foldr (fun u n => cnt u + n) 0
theorem zc7 {α : Type} (cnt : α → Int) : cntS cnt [] = 0 := rfl
theorem zfl {α : Type} (cnt : α → Int) (u : α) (us : List α) : cntS cnt (u :: us) = cnt u + cntS cnt us := rfl
theorem zv9 {α : Type} (cnt : α → Int) (us vs : List α) : cntS cnt (us ++ vs) = cntS cnt us + cntS cnt vs := by
 induction us with
 | nil => simp [zc7]
 | cons u us ih => rw [List.cons_append, zfl, zfl, ih]; omega
theorem zkf {α : Type} {cnt : α → Int} (h : ∀ u, 0 ≤ cnt u) (us : List α) : 0 ≤ cntS cnt us := by
 induction us with
 | nil => simp [zc7]
 | cons u us ih => rw [zfl]; have := h u; omega
theorem zg9 {α : Type} (cnt : α → Int) (us : List α) (i : Nat) (h : i < us.length) : cntS cnt (us.take (i + 1)) = cntS cnt (us.take i) + cnt us[i] := by
 rw [List.take_succ_eq_append_getElem h, zv9, zfl, zc7]; omega
theorem zp7 {α : Type} {cnt : α → Int} (hc : ∀ u, 0 ≤ cnt u) (us : List α) (i : Nat) (h : i < us.length) : 0 ≤ cntS cnt (us.take i) ∧ 0 ≤ cnt us[i] ∧ cntS cnt (us.take i) + cnt us[i] ≤ cntS cnt us := by
 refine ⟨zkf hc _, hc _, ?_⟩
 rw [← zg9 cnt us i h]
 conv => rhs; rw [← List.take_append_drop (i + 1) us, zv9]
 have := zkf hc (us.drop (i + 1))
 omega
theorem zf6 {α : Type} (mk : Int → α → α) (cnt : α → Int) : ∀ (us : List α) (k : Int), (mkS mk cnt k us).length = us.length
 | [], _ => rfl
 | u :: us, k => by simp [mkS, zf6 mk cnt us]
theorem mkS_app {α : Type} (mk : Int → α → α) (cnt : α → Int) : ∀ (us vs : List α) (k : Int), mkS mk cnt k (us ++ vs) = mkS mk cnt k us ++ mkS mk cnt (k + cntS cnt us) vs
 | [], vs, k => by simp [mkS, zc7]
 | u :: us, vs, k => by
  rw [List.cons_append, mkS, mkS, mkS_app mk cnt us vs, zfl, List.cons_append]
  congr 2
  congr 1
  omega
def mkSR {α : Type} (mk : Int → α → α) (cnt : α → Int) (k : Int) (us : List α) (i : Nat) : List α := mkS mk cnt k (us.take i) ++ us.drop i
theorem zp8 {α : Type} (mk : Int → α → α) (cnt : α → Int) (k : Int) (us : List α) (i : Nat) (h : i ≤ us.length) : (mkSR mk cnt k us i).length = us.length := by
 simp [mkSR, zf6]; omega
theorem zgz {α : Type} (mk : Int → α → α) (cnt : α → Int) (k : Int) (us : List α) : mkSR mk cnt k us 0 = us := by simp [mkSR, mkS]
theorem mkSR_n {α : Type} (mk : Int → α → α) (cnt : α → Int) (k : Int) (us : List α) (i : Nat) (h : us.length ≤ i) : mkSR mk cnt k us i = mkS mk cnt k us := by
 unfold mkSR
 rw [List.take_of_length_le h, List.drop_of_length_le h, List.append_nil]
theorem zlf {α : Type} (mk : Int → α → α) (cnt : α → Int) (k : Int) (us : List α) (i : Nat) (h : i < us.length) : (mkSR mk cnt k us i)[i]? = some us[i] := by
 unfold mkSR
 rw [List.getElem?_append_right (by simp [zf6]; omega)]
 simp only [zf6, List.length_take, List.getElem?_drop]
 rw [show i + (i - min i us.length) = i by omega]
 exact List.getElem?_eq_getElem h
theorem zb7 {α : Type} (mk : Int → α → α) (cnt : α → Int) (k : Int) (us : List α) (i : Nat) (h : i < us.length) (h' : i < (mkSR mk cnt k us i).length) : (mkSR mk cnt k us i)[i] = us[i] := by
 have := zlf mk cnt k us i h
 rw [List.getElem?_eq_getElem h'] at this
 exact Option.some.inj this
theorem zht {α : Type} (mk : Int → α → α) (cnt : α → Int) (k : Int) (us : List α) (i : Nat) (h : i < us.length) : (mkSR mk cnt k us i).set i (mk (k + cntS cnt (us.take i)) us[i]) = mkSR mk cnt k us (i + 1) := by
 unfold mkSR
 rw [List.take_succ_eq_append_getElem h, mkS_app]
 simp only [mkS]
 rw [List.set_append, if_neg (by simp [zf6]; omega)]
 simp only [zf6, List.length_take]
 rw [show i - min i us.length = 0 by omega]
 have e : us.drop i = us[i] :: us.drop (i + 1) := (List.getElem_cons_drop h).symm
 rw [e, List.set_cons_zero, List.append_assoc]
 rfl
theorem zb3 {α β : Type} (f : α → β) (l : List α) (i : Nat) (x : β) (h : i < l.length) : ((l.map f).set i x)[i]? = some x := List.getElem?_set_self (by simpa using h)
theorem zha (z : List AV) (n : Nat) (h : z.all scal0 = true) : scR (List.replicate n z) = true := by
 unfold scR
 rw [List.all_eq_true]
 intro x hx
 rw [List.eq_of_mem_replicate hx]; exact h
/-- A copy of structs under way. -/
def cpS {α : Type} (z : List AV) (f : α → List AV) (us : List α) (i : Nat) : List (List AV) := (us.take i).map f ++ List.replicate (us.length - i) z
theorem cpS_len {α : Type} (z : List AV) (f : α → List AV) (us : List α) (i : Nat) (h : i ≤ us.length) : (cpS z f us i).length = us.length := by simp [cpS]; omega
theorem zrz {α : Type} (z : List AV) (f : α → List AV) (us : List α) : cpS z f us 0 = List.replicate us.length z := by simp [cpS]
theorem cpS_n {α : Type} (z : List AV) (f : α → List AV) (us : List α) (i : Nat) (h : us.length ≤ i) : cpS z f us i = us.map f := by
 unfold cpS
 rw [List.take_of_length_le h, show us.length - i = 0 by omega]
 simp
theorem cpS_get {α : Type} (z : List AV) (f : α → List AV) (us : List α) (i : Nat) (h : i < us.length) : (cpS z f us i)[i]? = some z := by
 unfold cpS
 rw [List.getElem?_append_right (by simp; omega), List.getElem?_replicate]
 simp; omega
theorem zdv {α : Type} (z : List AV) (f : α → List AV) (us : List α) (i : Nat) (h : i < us.length) (h' : i < (cpS z f us i).length) : (cpS z f us i)[i] = z := by
 have := cpS_get z f us i h
 rw [List.getElem?_eq_getElem h'] at this
 exact Option.some.inj this
theorem zp9 {α : Type} (z : List AV) (f : α → List AV) (us : List α) (i : Nat) (h : i < us.length) : (cpS z f us i).set i (f us[i]) = cpS z f us (i + 1) := by
 unfold cpS
 rw [List.take_succ_eq_append_getElem h, List.map_append, List.set_append, if_neg (by simp; omega), List.append_assoc]
 congr 1
 rw [show us.length - i = (us.length - (i + 1)) + 1 by omega, List.replicate_succ]
 simp only [List.length_map, List.length_take]
 rw [show i - min i us.length = 0 by omega, List.set_cons_zero]
 rfl
theorem zcv {α : Type} (mk : Int → α → α) (cnt : α → Int) : ∀ (us : List α) (k : Int) (i : Nat) (h : i < us.length) (h' : i < (mkS mk cnt k us).length), (mkS mk cnt k us)[i] = mk (k + cntS cnt (us.take i)) us[i]
 | [], _, _, h, _ => by simp at h
 | u :: us, k, 0, _, _ => by simp [mkS, zc7]
 | u :: us, k, i + 1, h, h' => by
  simp only [mkS, List.getElem_cons_succ, List.take_succ_cons, zfl]
  rw [zcv mk cnt us (k + cnt u) i (by simpa using h)]
  congr 1; omega
end Go.Proofs.YtfbmhgiokfpgiaaGreat.Vs

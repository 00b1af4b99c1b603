import Derived.Test.YtfbmhgiokfpgiaaSCT
open Go Go.Proofs Go.Proofs.Ytfbmhgiokfpgiaa.Vs
namespace Go.Proofs.Ytfbmhgiokfpgiaa.Vs
set_option linter.all false
set_option linter.unusedSimpArgs false
set_option linter.unusedVariables false
set_option maxRecDepth 100000
/-- Marks. -/
def mkL {α : Type} (f : Int → α) (k : Int) (n : Nat) : List α := (List.range n).map fun j => f (k + (j : Nat))
def mkR {α : Type} (f : Int → α) (k : Int) (l : List α) (i : Nat) : List α := mkL f k i ++ l.drop i
def mB (k : Int) : Bool := k.tmod 3 == 0
/-- Decimal digits. -/
def dg (n : Nat) (out : List UInt8) : List UInt8 := if n = 0 then out else dg (n / 10) (strN [IntKind.u8.wrap (48 + (n : Int) % 10)] ++ out)
termination_by n
decreasing_by omega
def mT (k : Int) : List UInt8 := if k ≤ 0 then [109, 48] else 109 :: dg k.toNat []
/-- A copy under way. -/
def cpR {α : Type} (z : α) (l : List α) (i : Nat) : List α := l.take i ++ List.replicate (l.length - i) z
theorem cpR_len {α : Type} (z : α) (l : List α) (i : Nat) (h : i ≤ l.length) : (cpR z l i).length = l.length := by simp [cpR]; omega
theorem cpR_0 {α : Type} (z : α) (l : List α) : cpR z l 0 = List.replicate l.length z := by simp [cpR]
theorem cpR_n {α : Type} (z : α) (l : List α) (i : Nat) (h : l.length ≤ i) : cpR z l i = l := by
 unfold cpR
 rw [List.take_of_length_le h, show l.length - i = 0 by omega]
 simp
theorem cpR_set {α : Type} (z : α) (l : List α) (i : Nat) (h : i < l.length) : (cpR z l i).set i l[i] = cpR z l (i + 1) := by
 apply List.ext_getElem?
 intro j
 unfold cpR
 rw [List.getElem?_set]
 by_cases hj : i = j
 ·subst hj
  rw [if_pos rfl, if_pos (by simp; omega), List.getElem?_append_left (by simp; omega)]
  simp [h]
 ·rw [if_neg hj]
  by_cases hlt : j < i
  ·rw [List.getElem?_append_left (by simp; omega), List.getElem?_append_left (by simp; omega)]
   simp [hlt, show j < i + 1 by omega]
  ·rw [List.getElem?_append_right (by simp; omega), List.getElem?_append_right (by simp; omega)]
   simp only [List.length_take, List.getElem?_replicate]
   congr 1
   simp
   omega
theorem cpR_get {α : Type} (z : α) (l : List α) (i : Nat) (h : i < l.length) : (cpR z l i)[i]? = some z := by
 unfold cpR
 rw [List.getElem?_append_right (by simp; omega), List.getElem?_replicate]
 simp; omega
theorem zvb (l : List (List UInt8)) (i : Nat) (h : i < l.length) : ((cpR [] l i).map cS).set i [.s l[i]] = (cpR [] l (i + 1)).map cS := by
 rw [← cpR_set [] l i h, List.map_set]; rfl
theorem zwg (l : List (List UInt8)) (hl : l.length ≤ 1048576) : XCall Try.prog 54 [.sl 1 (l.map cS)] [] (.arr 16 0 l.length) [] [.own 1 (l.map cS)] := by
 refine zc1 Try.func54 (by rfl) (by rfl) (by rw [Try.ntmps54]; exact Nat.le_of_ble_eq_true rfl) rfl (by simp) rfl rfl ?_
 rw [Try.ntmps54]
 refine zgt   ?_
 refine AW_k [(0, _)] ⟨rfl, trivial⟩ ?_
 refine AW_x rfl rfl fun K hK => ?_
 simp (disch := omega) [zbd, List.getElem?_eq_getElem, zdr, cS]
 repeat' first | (refine ⟨by omega, ?_⟩) | (intro _)
 refine hK _ ?_; clear hK K
 refine AW_x rfl rfl fun K hK => ?_
 simp (disch := omega) [zbd, List.getElem?_eq_getElem, zdr, cS]
 repeat' first | (refine ⟨by omega, ?_⟩) | (intro _)
 refine hK _ ?_; clear hK K
 refine zbt ?_
 refine AW_x rfl rfl fun K hK => ?_
 simp (disch := omega) [zbd, List.getElem?_eq_getElem, zdr, cS]
 repeat' first | (refine ⟨by omega, ?_⟩) | (intro _)
 refine hK _ ?_; clear hK K
 refine zb0 ?_
 refine zcc (fun mM sS => ∃ (i : Nat), mM = l.length - i ∧ (i ≤ l.length) ∧ sS = { env := lkE [(0, .sl 1 (l.map cS)), (3, .arr 128 0 l.length), (4, (.g (.int .i64 ((i : Nat)))))], ob := lk [(128, .flat 1 ((cpR [] l i).map cS))] }) ?_ ?_
 ·refine ⟨_, LeS.kx [(128, 128)] [(0, .sl 1 (l.map cS)), (3, .arr 128 0 l.length), (4, (.g (.int .i64 (((0) : Nat)))))] [(128, .flat 1 ((cpR [] l (0)).map cS))] (by simp [KpR, renV2, renV, zbn, zb4, zbk, zbx, cpR_0, cS]; try (first | rfl | (omega; done))) (by simp [KpOX, renO, plO, cvO, renV, pl1, zbk, zbx, zbn, cpR_0, cS]; try (first | rfl | (simp [zvb l i (by omega)]; done))) (by rfl) (by simp) (by simp) (by rfl) (by simp [formsX, List.range_succ, zbk, zbx]), _, 0, rfl, ?_, rfl⟩
  ·simp
 ·rintro mM sS ⟨i, rfl, hi, rfl⟩
  have hln : (cpR [] l i).length = l.length := cpR_len _ _ _ hi
  refine zbt ?_
  refine AW_x rfl rfl fun K hK => ?_
  simp (disch := omega) [zbd, List.getElem?_eq_getElem, zdr, cS]
  repeat' first | (refine ⟨by omega, ?_⟩) | (intro _)
  refine hK _ ?_; clear hK K
  refine zbv rfl (fun hc4 => ?_) (fun hc4 => ?_)
  ·try simp at hc4
   all_goals
    have hg : (cpR [] l i)[i]? = some [] := cpR_get _ _ _ (by omega)
    refine zbw ?_
    refine zb3 ?_
    refine zbt ?_
    refine zb0 ?_
    refine zdx rfl rfl fun K hK => ?_
    simp (disch := omega) [zbd, List.getElem?_eq_getElem, zdr, cS]
    repeat' first | (exfalso; omega) | (refine ⟨fun _ => ?_, fun _ => ?_⟩) | (refine ⟨by omega, ?_⟩) | (intro _)
    all_goals (refine hK _ ?_; clear hK K)
    all_goals
     refine zb3 ?_
     refine zdx rfl rfl fun K hK => ?_
     simp (disch := omega) [zbd, List.getElem?_eq_getElem, zdr, cS]
     repeat' first | (refine ⟨by omega, ?_⟩) | (intro _)
     refine hK _ ?_; clear hK K
     refine ⟨_, LeS.kx [(128, 128)] [(0, .sl 1 (l.map cS)), (3, .arr 128 0 l.length), (4, (.g (.int .i64 (((i + 1) : Nat)))))] [(128, .flat 1 ((cpR [] l (i + 1)).map cS))] (by simp [KpR, renV2, renV, zbn, zb4, zbk, zbx, cpR_0, cS]; try (first | rfl | (omega; done))) (by simp [KpOX, renO, plO, cvO, renV, pl1, zbk, zbx, zbn, cpR_0, cS]; try (first | rfl | (simp [zvb l i (by omega)]; done))) (by rfl) (by simp) (by simp) (by rfl) (by simp [formsX, List.range_succ, zbk, zbx]), _, ?_, i + 1, rfl, ?_, rfl⟩
     ·omega
     ·omega
  try simp at hc4
  refine zce ?_
  refine zb3 ?_
  refine AW_x rfl rfl fun K hK => ?_
  simp (disch := omega) [zbd, List.getElem?_eq_getElem, zdr, cS]
  repeat' first | (exfalso; omega) | (refine ⟨fun _ => ?_, fun _ => ?_⟩) | (refine ⟨by omega, ?_⟩) | (intro _)
  all_goals (refine hK _ ?_; clear hK K)
  all_goals
   refine zbz (zhc [128] [] (by simp [List.range_succ, zbk, zbx, zbn]) (by simp) ?_)
   simp (disch := omega) [zbd, List.getElem?_eq_getElem, zdr, cS]
   all_goals (rw [cpR_n _ _ _ (by omega)])
/-- Marks of a row of structs. -/
def mkS {α : Type} (mk : Int → α → α) (cnt : α → Int) : Int → List α → List α
 | _, [] => []
 | k, u :: us => mk k u :: mkS mk cnt (k + cnt u) us
def cntS {α : Type} (cnt : α → Int) (us : List α) : Int := us.foldr (fun u n => cnt u + n) 0
def mkSR {α : Type} (mk : Int → α → α) (cnt : α → Int) (k : Int) (us : List α) (i : Nat) : List α := mkS mk cnt k (us.take i) ++ us.drop i
theorem zc2 {α β : Type} (f : α → β) (l : List α) (i : Nat) (x : β) (h : i < l.length) : ((l.map f).set i x)[i]? = some x := List.getElem?_set_self (by simpa using h)
theorem zgu (z : List AV) (n : Nat) (h : z.all scal0 = true) : scR (List.replicate n z) = true := by
 unfold scR
 rw [List.all_eq_true]
 intro x hx
 rw [List.eq_of_mem_replicate hx]; exact h
/-- A copy of structs under way. -/
def cpS {α : Type} (z : List AV) (f : α → List AV) (us : List α) (i : Nat) : List (List AV) := (us.take i).map f ++ List.replicate (us.length - i) z
theorem zz7 {α : Type} (z : List AV) (f : α → List AV) (us : List α) (i : Nat) (h : i ≤ us.length) : (cpS z f us i).length = us.length := by simp [cpS]; omega
theorem zq8 {α : Type} (z : List AV) (f : α → List AV) (us : List α) : cpS z f us 0 = List.replicate us.length z := by simp [cpS]
theorem cpS_n {α : Type} (z : List AV) (f : α → List AV) (us : List α) (i : Nat) (h : us.length ≤ i) : cpS z f us i = us.map f := by
 unfold cpS
 rw [List.take_of_length_le h, show us.length - i = 0 by omega]
 simp
theorem cpS_get {α : Type} (z : List AV) (f : α → List AV) (us : List α) (i : Nat) (h : i < us.length) : (cpS z f us i)[i]? = some z := by
 unfold cpS
 rw [List.getElem?_append_right (by simp; omega), List.getElem?_replicate]
 simp; omega
theorem zdm {α : Type} (z : List AV) (f : α → List AV) (us : List α) (i : Nat) (h : i < us.length) (h' : i < (cpS z f us i).length) : (cpS z f us i)[i] = z := by
 have := cpS_get z f us i h
 rw [List.getElem?_eq_getElem h'] at this
 exact Option.some.inj this
theorem zpf {α : Type} (z : List AV) (f : α → List AV) (us : List α) (i : Nat) (h : i < us.length) : (cpS z f us i).set i (f us[i]) = cpS z f us (i + 1) := by
 unfold cpS
 rw [List.take_succ_eq_append_getElem h, List.map_append, List.set_append, if_neg (by simp; omega), List.append_assoc]
 congr 1
 rw [show us.length - i = (us.length - (i + 1)) + 1 by omega, List.replicate_succ]
 simp only [List.length_map, List.length_take]
 rw [show i - min i us.length = 0 by omega, List.set_cons_zero]
 rfl
end Go.Proofs.Ytfbmhgiokfpgiaa.Vs

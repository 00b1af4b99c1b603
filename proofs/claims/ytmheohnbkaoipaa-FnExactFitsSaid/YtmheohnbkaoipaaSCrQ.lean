import Derived.Test.YtmheohnbkaoipaaSLQ
open Go Go.Proofs Go.Proofs.Ytmheohnbkaoipaa.Vs
namespace Go.Proofs.Ytmheohnbkaoipaa.Vs
set_option linter.all false
set_option linter.unusedSimpArgs false
set_option linter.unusedVariables false
set_option maxRecDepth 100000
/-! creating -/
noncomputable def lessN : List DtCSet → List UInt8 → Nat
 | [], _ => 0
 | s :: l, n => if Op.bytesLess s.fName n = true then lessN l n + 1 else 0
theorem lessN_le (l : List DtCSet) (n : List UInt8) : lessN l n ≤ l.length := by
 induction l with
 | nil => simp [lessN]
 | cons s l ih => simp only [lessN, List.length_cons]; split <;> omega
theorem zj2 (n : List UInt8) : ∀ (l : List DtCSet) (i : Nat), i ≤ l.length → (∀ j (h : j < l.length), j < i → Op.bytesLess l[j].fName n = true) → (∀ h : i < l.length, Op.bytesLess l[i].fName n = false) → lessN l n = i
 | [], i, hi, _, _ => by simp at hi; subst hi; rfl
 | s :: l, 0, _, _, h => by
  have := h (by simp)
  simp only [List.getElem_cons_zero] at this
  simp [lessN, this]
 | s :: l, i + 1, hi, h1, h2 => by
  have h0 := h1 0 (by simp) (by omega)
  simp only [List.getElem_cons_zero] at h0
  simp only [lessN, h0, if_true]
  rw [zj2 n l i (by simpa using hi) (fun j h hj => by have := h1 (j + 1) (by simpa using h) (by omega); simpa using this) (fun h => by have := h2 (by simpa using h); simpa using this)]
noncomputable def creS (l : List DtCSet) (n : List UInt8) : List DtCSet := if 0 ≤ findS l n then l else if l.length = 5 then l else l.take (lessN l n) ++ { fName := n, fSnaps := [] } :: l.drop (lessN l n)
noncomputable def creR (l : List DtCSet) (n : List UInt8) : List UInt8 := if 0 ≤ findS l n then bExists else if l.length = 5 then bFull else bOk
theorem zqn {l : List DtCSet} {n : List UInt8} (h : 0 ≤ findS l n) : creS l n = l ∧ creR l n = bExists := by unfold creS creR; rw [if_pos h, if_pos h]; exact ⟨rfl, rfl⟩
theorem zqo {l : List DtCSet} {n : List UInt8} (h : findS l n < 0) (h5 : (l.length : Int) = 5) : creS l n = l ∧ creR l n = bFull := by unfold creS creR; rw [if_neg (by omega), if_pos (by omega), if_neg (by omega), if_pos (by omega)]; exact ⟨rfl, rfl⟩
theorem zqp {l : List DtCSet} {n : List UInt8} (h : findS l n < 0) (h5 : ¬ (l.length : Int) = 5) : creS l n = l.take (lessN l n) ++ { fName := n, fSnaps := [] } :: l.drop (lessN l n) ∧ creR l n = bOk := by unfold creS creR; rw [if_neg (by omega), if_neg (by omega), if_neg (by omega), if_neg (by omega)]; exact ⟨rfl, rfl⟩
def newV (n : List UInt8) : SetV := ({ fName := n, fSnaps := [] }, fun _ => .slice none 0 0)
theorem zsc {zs : List SetV} {l : List DtCSet} (hzl : zs.length = l.length) (y : List AV) (hy : ∀ x ∈ y, scal0 x = true) (k : Nat) (hk : k ≤ l.length) (hl : l.length ≤ 1048576) : XCall Try.prog 101 [.arr 8 0 l.length, (.g (.int .i64 ((k : Nat)))), .arr 9 0 1] [.own 2 (zs.map setV), .own 2 [y]] (.arr 16 0 (l.length + 1)) [.dead, .dead] [.own 2 ((zs.map setV).take k ++ y :: (zs.map setV).drop k)] := by
 have e : (zs.map setV).length = l.length := by rw [List.length_map, hzl]
 have h := zvt (zs.map setV) (zci zs) y hy k (by omega) (by omega)
 rw [e] at h
 exact h
theorem zns (n : List UInt8) : setV (newV n) = [.s n, .g (.slice none 0 0)] := rfl
theorem znt (n : List UInt8) : setP (newV n) = [(.sl 3 [], .slice none 0 0)] := rfl
theorem scR_ins (zs : List SetV) (n : List UInt8) (i : Nat) : scR ((zs.map setV).take i ++ [.s n, .g (.slice none 0 0)] :: (zs.map setV).drop i) = true := by
 have : (zs.map setV).take i ++ [.s n, .g (.slice none 0 0)] :: (zs.map setV).drop i = (zs.take i ++ newV n :: zs.drop i).map setV := by simp [zns]
 rw [this]; exact zci _
theorem ins_c {zs : List SetV} {l : List DtCSet} (hz : zs.map (·.1) = l) (n : List UInt8) (i : Nat) : ((zs.take i ++ newV n :: zs.drop i).map fun z => DtCSet.cells z.1) = (l.take i ++ { fName := n, fSnaps := [] } :: l.drop i).map DtCSet.cells := by
 subst hz; simp [newV, Function.comp_def]
attribute [local simp] DtCSet.cells zbu and_assoc DtCatalog.cells zci
theorem createX (l : List DtCSet) (hl : l.length ≤ 1048576) (n : List UInt8) : XCall Try.prog 58 [.ptr 8 0, .s n] [.cells [.arr 9 0 l.length], .own 2 (l.map DtCSet.cells)] (.s (creR l n)) [.cells [.arr 16 0 (creS l n).length], .dead] [.own 2 ((creS l n).map DtCSet.cells)] := by
 refine zb5 Try.func58 (by rfl) (by rfl) (by rw [Try.ntmps58]; exact Nat.le_of_ble_eq_true rfl) rfl (by simp) rfl rfl ?_
 rw [Try.ntmps58]
 refine AW_x2 (.cells [.arr 9 0 l.length]) (.own 2 (l.map DtCSet.cells)) (by simp [cvO] <;> assumption) (by simp [cvO] <;> assumption) ?_
 refine AW_k [(0, _), (1, _)] ⟨rfl, rfl, trivial⟩ ?_
 refine AW_x rfl rfl fun K hK => ?_
 simp (disch := omega)
 repeat' first | (refine ⟨by omega, ?_⟩) | (intro _)
 refine hK _ ?_; clear hK K
 refine zbl ?_
 refine zbs ?_
 refine AW_x rfl rfl fun K hK => ?_
 simp (disch := omega)
 repeat' first | (exfalso; omega) | (refine zfs (zbh (zb7 rfl) (zbh zge zbp)) (ztf { fSets := l } n (by simpa using hl)) rfl ?_; simp (disch := omega)) | (refine zft (ztf { fSets := l } n (by simpa using hl)) (by rfl) ?_ ?_; (focus (simp (disch := omega) [zbu]; done)); simp (disch := omega)) | (refine ⟨by omega, ?_⟩) | (simp (disch := omega)) | (intro _)
 refine hK _ ?_; clear hK K
 refine zbk rfl (fun hc1 => ?_) (fun hc1 => ?_)
 ·try simp [zba, zbb, zbe, zbc] at hc1
  all_goals
   refine AW_x rfl rfl fun K hK => ?_
   simp (disch := omega)
   repeat' first | (exfalso; omega) | (refine ⟨fun _ => ?_, fun _ => ?_⟩) | (refine ⟨by omega, ?_⟩) | (simp (disch := omega)) | (intro _)
   all_goals (refine hK _ ?_; clear hK K)
   all_goals
    refine zbn (zcf [9] [] (by simp [List.range_succ, zbd, zbi, zbf]) (by simp) ?_)
    simp (disch := omega)
    all_goals first | (have ⟨h1, h2⟩ := zqn hc1; rw [h1, h2]; exact ⟨rfl, rfl, rfl, rfl⟩) | (have ⟨h1, h2⟩ := zqo hc1 hc2; rw [h1, h2]; exact ⟨rfl, rfl, rfl, rfl⟩) | (have ⟨h1, h2⟩ := zqp hc1 hc2; rw [h1, h2, hcut]; exact ⟨rfl, rfl, (by simp; omega), (by first | (simp [DtCSet.cells, List.map_take, List.map_drop]; done) | (rw [List.take_of_length_le (by omega : l.length ≤ i)]; simp [DtCSet.cells, List.map_drop]; done))⟩) | trace_state
 try simp [zba, zbb, zbe, zbc] at hc1
 refine AW_x rfl rfl fun K hK => ?_
 simp (disch := omega)
 repeat' first | (exfalso; omega) | (refine ⟨fun _ => ?_, fun _ => ?_⟩) | (refine ⟨by omega, ?_⟩) | (simp (disch := omega)) | (intro _)
 all_goals (refine hK _ ?_; clear hK K)
 all_goals
  refine zbk rfl (fun hc2 => ?_) (fun hc2 => ?_)
  ·try simp [zba, zbb, zbe, zbc] at hc2
   all_goals
    refine AW_x rfl rfl fun K hK => ?_
    simp (disch := omega)
    repeat' first | (exfalso; omega) | (refine ⟨fun _ => ?_, fun _ => ?_⟩) | (refine ⟨by omega, ?_⟩) | (simp (disch := omega)) | (intro _)
    all_goals (refine hK _ ?_; clear hK K)
    all_goals
     refine zbn (zcf [9] [] (by simp [List.range_succ, zbd, zbi, zbf]) (by simp) ?_)
     simp (disch := omega)
     all_goals first | (have ⟨h1, h2⟩ := zqn hc1; rw [h1, h2]; exact ⟨rfl, rfl, rfl, rfl⟩) | (have ⟨h1, h2⟩ := zqo hc1 hc2; rw [h1, h2]; exact ⟨rfl, rfl, rfl, rfl⟩) | (have ⟨h1, h2⟩ := zqp hc1 hc2; rw [h1, h2, hcut]; exact ⟨rfl, rfl, (by simp; omega), (by first | (simp [DtCSet.cells, List.map_take, List.map_drop]; done) | (rw [List.take_of_length_le (by omega : l.length ≤ i)]; simp [DtCSet.cells, List.map_drop]; done))⟩) | trace_state
  try simp [zba, zbb, zbe, zbc] at hc2
  refine zbm ?_
  refine zbr ?_
  refine AW_x rfl rfl fun K hK => ?_
  simp (disch := omega)
  repeat' first | (exfalso; omega) | (refine ⟨fun _ => ?_, fun _ => ?_⟩) | (refine ⟨by omega, ?_⟩) | (simp (disch := omega)) | (intro _)
  all_goals (refine hK _ ?_; clear hK K)
  all_goals
   refine zbl ?_
   refine zbs ?_
   refine zb3 (fun mM sS => ∃ (i : Nat), mM = l.length - i ∧ (i ≤ l.length ∧ ∀ j (h : j < l.length), j < i → Op.bytesLess l[j].fName n = true) ∧ sS = { env := lkE [(0, .ptr 8 0), (1, .s n), (5, (.g (.int .i64 ((i : Nat)))))], ob := lk [(8, .cells [.arr 9 0 l.length]), (9, .own 2 (l.map DtCSet.cells))] }) ?_ ?_
   ·refine ⟨_, LeS.kx [(8, 8), (9, 9)] [(0, .ptr 8 0), (1, .s n), (5, (.g (.int .i64 (((0) : Nat)))))] [(8, .cells [.arr 9 0 l.length]), (9, .own 2 (l.map DtCSet.cells))] (by simp [KpR, renV2, renV, zbf, zbt, zbd, zbi, DtCSet.cells]; try rfl) (by simp [KpOX, renO, plO, cvO, renV, pl1, zbd, zbi, zbf, DtCSet.cells]; try rfl) (by rfl) (by simp) (by simp) (by rfl) (by simp [formsX, List.range_succ, zbd, zbi]), _, 0, rfl, ?_, rfl⟩
    ·simp
   ·rintro mM sS ⟨i, rfl, ⟨hi, hpre⟩, rfl⟩
    refine zbl ?_
    refine AW_x rfl rfl fun K hK => ?_
    simp (disch := omega)
    repeat' first | (exfalso; omega) | (refine ⟨fun _ => ?_, fun _ => ?_⟩) | (refine ⟨by omega, ?_⟩) | (simp (disch := omega)) | (intro _)
    all_goals (refine hK _ ?_; clear hK K)
    all_goals
     refine zbk rfl (fun hc3 => ?_) (fun hc3 => ?_)
     ·try simp [zba, zbb, zbe, zbc] at hc3
      all_goals
       have hg : (l.map DtCSet.cells)[i]? = if h : i < l.length then some (DtCSet.cells l[i]) else none := by by_cases h : i < l.length <;> simp [h]
       refine zbm ?_
       refine zbr ?_
       refine zbs ?_
       refine zcw rfl rfl fun K hK => ?_
       simp (disch := omega)
       repeat' first | (exfalso; omega) | (refine ⟨fun _ => ?_, fun _ => ?_⟩) | (refine ⟨by omega, ?_⟩) | (simp (disch := omega)) | (intro _)
       all_goals (refine hK _ ?_; clear hK K)
       all_goals
        refine ⟨_, LeS.kx [(8, 8), (9, 9)] [(0, .ptr 8 0), (1, .s n), (5, (.g (.int .i64 (((i + 1) : Nat)))))] [(8, .cells [.arr 9 0 l.length]), (9, .own 2 (l.map DtCSet.cells))] (by simp [KpR, renV2, renV, zbf, zbt, zbd, zbi, DtCSet.cells]; try rfl) (by simp [KpOX, renO, plO, cvO, renV, pl1, zbd, zbi, zbf, DtCSet.cells]; try rfl) (by rfl) (by simp) (by simp) (by rfl) (by simp [formsX, List.range_succ, zbd, zbi]), _, ?_, i + 1, rfl, ?_, rfl⟩
        ·omega
        ·exact ⟨by omega, fun j h hj => if e : j < i then hpre j h e else (by have e2 : j = i := (by omega); subst e2; assumption)⟩
     try simp [zba, zbb, zbe, zbc] at hc3
     refine zb8 ?_
     refine zbr ?_
     have hcut : lessN l n = i := zj2 n l i (by omega) hpre (fun h => by first | (exfalso; omega) | assumption | simp_all)
     refine zdr (us := l) 9 901 (by simp [zbf, zbd, zbi]) (by simp [zbf, zbd, zbi]) fun zs hz hone => ?_
     have hzl : zs.length = l.length := by rw [← hz]; simp
     have hzl2 : (zs.length = l.length) = True := eq_true hzl
     refine AW_x rfl rfl fun K hK => ?_
     simp (disch := omega)
     repeat' first | (exfalso; omega) | (refine zgt [9, 800] true [] (zsc hzl [.s n, .g (.slice none 0 0)] (by simp [scal0]) i hi hl) ?_ ?_ ?_; (focus (simp [List.range_succ, nmC]; done)); (focus (simp (disch := omega) [zbu]; done)); simp (disch := omega)) | (refine ⟨fun _ => ?_, fun _ => ?_⟩) | (refine ⟨by omega, ?_⟩) | (simp (disch := omega)) | (intro _)
     all_goals (refine hK _ ?_; clear hK K)
     all_goals
      refine AW_ow (sz := 2) 816 905 (scR_ins zs n i) (by first | (simp [zbf, zbd, zbi]; done) | (rw [List.take_of_length_le (i := i) (by rw [List.length_map]; omega), List.drop_eq_nil_of_le (i := i) (by rw [List.length_map]; omega)]; simp [zbf, zbd, zbi]; done)) (by simp [zbf, zbd, zbi]) ?_
      refine zd4 (LeS.parkN 901 (s := 3) (ps1 := (zs.take i).flatMap setP) (ps2 := (zs.drop i).flatMap setP) (by simp [zbf, zbd, zbi]; rw [← List.flatMap_append, List.take_append_drop])) ?_
      refine zd4 (zg7 (ks := zs.take i ++ newV n :: zs.drop i) (zs := zs.take i ++ newV n :: zs.drop i) 816 901 (by simp [zbf, zbd, zbi, zns]) (by simp [zbf, zbd, zbi, znt]) (List.Sublist.refl _)) ?_
      have hsn := ins_c hz n i
      rw [hsn]
      refine AW_x rfl rfl fun K hK => ?_
      simp (disch := omega)
      repeat' first | (refine ⟨by omega, ?_⟩) | (intro _)
      refine hK _ ?_; clear hK K
      refine zbn (zcf [816] [] (by simp [List.range_succ, zbd, zbi, zbf]) (by simp) ?_)
      simp (disch := omega)
      all_goals first | (have ⟨h1, h2⟩ := zqn hc1; rw [h1, h2]; exact ⟨rfl, rfl, rfl, rfl⟩) | (have ⟨h1, h2⟩ := zqo hc1 hc2; rw [h1, h2]; exact ⟨rfl, rfl, rfl, rfl⟩) | (have ⟨h1, h2⟩ := zqp hc1 hc2; rw [h1, h2, hcut]; exact ⟨rfl, rfl, (by simp; omega), (by first | (simp [DtCSet.cells, List.map_take, List.map_drop]; done) | (rw [List.take_of_length_le (by omega : l.length ≤ i)]; simp [DtCSet.cells, List.map_drop]; done))⟩) | trace_state
end Go.Proofs.Ytmheohnbkaoipaa.Vs

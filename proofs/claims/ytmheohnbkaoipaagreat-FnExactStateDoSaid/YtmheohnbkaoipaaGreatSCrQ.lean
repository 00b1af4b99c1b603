import Derived.Test.YtmheohnbkaoipaaGreatSLQ
open Go Go.Proofs Go.Proofs.YtmheohnbkaoipaaGreat.Vs
namespace Go.Proofs.YtmheohnbkaoipaaGreat.Vs
set_option linter.all false
set_option linter.unusedSimpArgs false
set_option linter.unusedVariables false
set_option maxRecDepth 100000
/-! creating -/
noncomputable def lessN : List DtCSet → List UInt8 → Nat
 | [], _ => 0
 | s :: l, n => if Op.bytesLess s.fName n = true then lessN l n + 1 else 0
theorem lessN_le (l : List DtCSet) (n : List UInt8) : lessN l n ≤ l.length := by
 induction l with
 | nil => simp [lessN]
 | cons s l ih => simp only [lessN, List.length_cons]; split <;> omega
theorem zks (n : List UInt8) : ∀ (l : List DtCSet) (i : Nat), i ≤ l.length → (∀ j (h : j < l.length), j < i → Op.bytesLess l[j].fName n = true) → (∀ h : i < l.length, Op.bytesLess l[i].fName n = false) → lessN l n = i
 | [], i, hi, _, _ => by simp at hi; subst hi; rfl
 | s :: l, 0, _, _, h => by
  have := h (by simp)
  simp only [List.getElem_cons_zero] at this
  simp [lessN, this]
 | s :: l, i + 1, hi, h1, h2 => by
  have h0 := h1 0 (by simp) (by omega)
  simp only [List.getElem_cons_zero] at h0
  simp only [lessN, h0, if_true]
  rw [zks n l i (by simpa using hi) (fun j h hj => by have := h1 (j + 1) (by simpa using h) (by omega); simpa using this) (fun h => by have := h2 (by simpa using h); simpa using this)]
noncomputable def creS (l : List DtCSet) (n : List UInt8) : List DtCSet := if 0 ≤ findS l n then l else if l.length = 5 then l else l.take (lessN l n) ++ { fName := n, fSnaps := [] } :: l.drop (lessN l n)
noncomputable def creR (l : List DtCSet) (n : List UInt8) : List UInt8 := if 0 ≤ findS l n then bExists else if l.length = 5 then bFull else bOk
theorem zrg {l : List DtCSet} {n : List UInt8} (h : 0 ≤ findS l n) : creS l n = l ∧ creR l n = bExists := by unfold creS creR; rw [if_pos h, if_pos h]; exact ⟨rfl, rfl⟩
theorem zrh {l : List DtCSet} {n : List UInt8} (h : findS l n < 0) (h5 : (l.length : Int) = 5) : creS l n = l ∧ creR l n = bFull := by unfold creS creR; rw [if_neg (by omega), if_pos (by omega), if_neg (by omega), if_pos (by omega)]; exact ⟨rfl, rfl⟩
theorem zri {l : List DtCSet} {n : List UInt8} (h : findS l n < 0) (h5 : ¬ (l.length : Int) = 5) : creS l n = l.take (lessN l n) ++ { fName := n, fSnaps := [] } :: l.drop (lessN l n) ∧ creR l n = bOk := by unfold creS creR; rw [if_neg (by omega), if_neg (by omega), if_neg (by omega), if_neg (by omega)]; exact ⟨rfl, rfl⟩
def newV (n : List UInt8) : SetV := ({ fName := n, fSnaps := [] }, fun _ => .slice none 0 0)
theorem zta {zs : List SetV} {l : List DtCSet} (hzl : zs.length = l.length) (y : List AV) (hy : ∀ x ∈ y, scal0 x = true) (k : Nat) (hk : k ≤ l.length) (hl : l.length ≤ 1048576) : XCall Tryz.prog 87 [.arr 8 0 l.length, (.g (.int .i64 ((k : Nat)))), .arr 9 0 1] [.own 2 (zs.map setV), .own 2 [y]] (.arr 16 0 (l.length + 1)) [.dead, .dead] [.own 2 ((zs.map setV).take k ++ y :: (zs.map setV).drop k)] := by
 have e : (zs.map setV).length = l.length := by rw [List.length_map, hzl]
 have h := zwq (zs.map setV) (zcm zs) y hy k (by omega) (by omega)
 rw [e] at h
 exact h
theorem zpj (n : List UInt8) : setV (newV n) = [.s n, .g (.slice none 0 0)] := rfl
theorem zpk (n : List UInt8) : setP (newV n) = [(.sl 3 [], .slice none 0 0)] := rfl
theorem scR_ins (zs : List SetV) (n : List UInt8) (i : Nat) : scR ((zs.map setV).take i ++ [.s n, .g (.slice none 0 0)] :: (zs.map setV).drop i) = true := by
 have : (zs.map setV).take i ++ [.s n, .g (.slice none 0 0)] :: (zs.map setV).drop i = (zs.take i ++ newV n :: zs.drop i).map setV := by simp [zpj]
 rw [this]; exact zcm _
theorem ins_c {zs : List SetV} {l : List DtCSet} (hz : zs.map (·.1) = l) (n : List UInt8) (i : Nat) : ((zs.take i ++ newV n :: zs.drop i).map fun z => DtCSet.cells z.1) = (l.take i ++ { fName := n, fSnaps := [] } :: l.drop i).map DtCSet.cells := by
 subst hz; simp [newV, Function.comp_def]
attribute [local simp] DtCSet.cells zbp and_assoc DtCatalog.cells zcm
theorem createX (l : List DtCSet) (hl : l.length ≤ 1048576) (n : List UInt8) : XCall Tryz.prog 59 [.ptr 8 0, .s n] [.cells [.arr 9 0 l.length], .own 2 (l.map DtCSet.cells)] (.s (creR l n)) [.cells [.arr 16 0 (creS l n).length], .dead] [.own 2 ((creS l n).map DtCSet.cells)] := by
 refine zbx Tryz.func59 (by rfl) (by rfl) (by rw [Tryz.ntmps59]; exact Nat.le_of_ble_eq_true rfl) rfl (by simp) rfl rfl ?_
 rw [Tryz.ntmps59]
 refine zzn (.cells [.arr 9 0 l.length]) (.own 2 (l.map DtCSet.cells)) (by simp [cvO] <;> assumption) (by simp [cvO] <;> assumption) ?_
 refine AW_k [(0, _), (1, _)] ⟨rfl, rfl, trivial⟩ ?_
 refine AW_x rfl rfl fun K hK => ?_
 simp (disch := omega)
 repeat' first | (refine ⟨by omega, ?_⟩) | (intro _)
 refine hK _ ?_; clear hK K
 refine zbm ?_
 refine zbt ?_
 refine AW_x rfl rfl fun K hK => ?_
 simp (disch := omega)
 repeat' first | (exfalso; omega) | (refine zdq (zbh (zbz rfl) (zbh zgv zbs)) (zvg { fSets := l } n (by simpa using hl)) rfl ?_; simp (disch := omega)) | (refine zdr (zvg { fSets := l } n (by simpa using hl)) (by rfl) ?_ ?_; (focus (simp (disch := omega) [zbp]; done)); simp (disch := omega)) | (refine ⟨by omega, ?_⟩) | (simp (disch := omega)) | (intro _)
 refine hK _ ?_; clear hK K
 refine zbl rfl (fun hc1 => ?_) (fun hc1 => ?_)
 ·try simp [zba, zbb, zbf, zbd] at hc1
  all_goals
   refine AW_x rfl rfl fun K hK => ?_
   simp (disch := omega)
   repeat' first | (exfalso; omega) | (refine ⟨fun _ => ?_, fun _ => ?_⟩) | (refine ⟨by omega, ?_⟩) | (simp (disch := omega)) | (intro _)
   all_goals (refine hK _ ?_; clear hK K)
   all_goals
    refine zbo (zcc [9] [] (by simp [List.range_succ, zbc, zbj, zbe]) (by simp) ?_)
    simp (disch := omega)
    all_goals first | (have ⟨h1, h2⟩ := zrg hc1; rw [h1, h2]; exact ⟨rfl, rfl, rfl, rfl⟩) | (have ⟨h1, h2⟩ := zrh hc1 hc2; rw [h1, h2]; exact ⟨rfl, rfl, rfl, rfl⟩) | (have ⟨h1, h2⟩ := zri hc1 hc2; rw [h1, h2, hcut]; exact ⟨rfl, rfl, (by simp; omega), (by first | (simp [DtCSet.cells, List.map_take, List.map_drop]; done) | (rw [List.take_of_length_le (by omega : l.length ≤ i)]; simp [DtCSet.cells, List.map_drop]; done))⟩) | trace_state
 try simp [zba, zbb, zbf, zbd] at hc1
 refine AW_x rfl rfl fun K hK => ?_
 simp (disch := omega)
 repeat' first | (exfalso; omega) | (refine ⟨fun _ => ?_, fun _ => ?_⟩) | (refine ⟨by omega, ?_⟩) | (simp (disch := omega)) | (intro _)
 all_goals (refine hK _ ?_; clear hK K)
 all_goals
  refine zbl rfl (fun hc2 => ?_) (fun hc2 => ?_)
  ·try simp [zba, zbb, zbf, zbd] at hc2
   all_goals
    refine AW_x rfl rfl fun K hK => ?_
    simp (disch := omega)
    repeat' first | (exfalso; omega) | (refine ⟨fun _ => ?_, fun _ => ?_⟩) | (refine ⟨by omega, ?_⟩) | (simp (disch := omega)) | (intro _)
    all_goals (refine hK _ ?_; clear hK K)
    all_goals
     refine zbo (zcc [9] [] (by simp [List.range_succ, zbc, zbj, zbe]) (by simp) ?_)
     simp (disch := omega)
     all_goals first | (have ⟨h1, h2⟩ := zrg hc1; rw [h1, h2]; exact ⟨rfl, rfl, rfl, rfl⟩) | (have ⟨h1, h2⟩ := zrh hc1 hc2; rw [h1, h2]; exact ⟨rfl, rfl, rfl, rfl⟩) | (have ⟨h1, h2⟩ := zri hc1 hc2; rw [h1, h2, hcut]; exact ⟨rfl, rfl, (by simp; omega), (by first | (simp [DtCSet.cells, List.map_take, List.map_drop]; done) | (rw [List.take_of_length_le (by omega : l.length ≤ i)]; simp [DtCSet.cells, List.map_drop]; done))⟩) | trace_state
  try simp [zba, zbb, zbf, zbd] at hc2
  refine zbn ?_
  refine zbq ?_
  refine AW_x rfl rfl fun K hK => ?_
  simp (disch := omega)
  repeat' first | (exfalso; omega) | (refine ⟨fun _ => ?_, fun _ => ?_⟩) | (refine ⟨by omega, ?_⟩) | (simp (disch := omega)) | (intro _)
  all_goals (refine hK _ ?_; clear hK K)
  all_goals
   refine zbm ?_
   refine zbt ?_
   refine zb5 (fun mM sS => ∃ (i : Nat), mM = l.length - i ∧ (i ≤ l.length ∧ ∀ j (h : j < l.length), j < i → Op.bytesLess l[j].fName n = true) ∧ sS = { env := lkE [(0, .ptr 8 0), (1, .s n), (5, (.g (.int .i64 ((i : Nat)))))], ob := lk [(8, .cells [.arr 9 0 l.length]), (9, .own 2 (l.map DtCSet.cells))] }) ?_ ?_
   ·refine ⟨_, LeS.kx [(8, 8), (9, 9)] [(0, .ptr 8 0), (1, .s n), (5, (.g (.int .i64 (((0) : Nat)))))] [(8, .cells [.arr 9 0 l.length]), (9, .own 2 (l.map DtCSet.cells))] (by simp [KpR, renV2, renV, zbe, zbv, zbc, zbj, DtCSet.cells]; try rfl) (by simp [KpOX, renO, plO, cvO, renV, pl1, zbc, zbj, zbe, DtCSet.cells]; try rfl) (by rfl) (by simp) (by simp) (by rfl) (by simp [formsX, List.range_succ, zbc, zbj]), _, 0, rfl, ?_, rfl⟩
    ·simp
   ·rintro mM sS ⟨i, rfl, ⟨hi, hpre⟩, rfl⟩
    refine zbm ?_
    refine AW_x rfl rfl fun K hK => ?_
    simp (disch := omega)
    repeat' first | (exfalso; omega) | (refine ⟨fun _ => ?_, fun _ => ?_⟩) | (refine ⟨by omega, ?_⟩) | (simp (disch := omega)) | (intro _)
    all_goals (refine hK _ ?_; clear hK K)
    all_goals
     refine zbl rfl (fun hc3 => ?_) (fun hc3 => ?_)
     ·try simp [zba, zbb, zbf, zbd] at hc3
      all_goals
       have hg : (l.map DtCSet.cells)[i]? = if h : i < l.length then some (DtCSet.cells l[i]) else none := by by_cases h : i < l.length <;> simp [h]
       refine zbn ?_
       refine zbq ?_
       refine zbt ?_
       refine zcr rfl rfl fun K hK => ?_
       simp (disch := omega)
       repeat' first | (exfalso; omega) | (refine ⟨fun _ => ?_, fun _ => ?_⟩) | (refine ⟨by omega, ?_⟩) | (simp (disch := omega)) | (intro _)
       all_goals (refine hK _ ?_; clear hK K)
       all_goals
        refine ⟨_, LeS.kx [(8, 8), (9, 9)] [(0, .ptr 8 0), (1, .s n), (5, (.g (.int .i64 (((i + 1) : Nat)))))] [(8, .cells [.arr 9 0 l.length]), (9, .own 2 (l.map DtCSet.cells))] (by simp [KpR, renV2, renV, zbe, zbv, zbc, zbj, DtCSet.cells]; try rfl) (by simp [KpOX, renO, plO, cvO, renV, pl1, zbc, zbj, zbe, DtCSet.cells]; try rfl) (by rfl) (by simp) (by simp) (by rfl) (by simp [formsX, List.range_succ, zbc, zbj]), _, ?_, i + 1, rfl, ?_, rfl⟩
        ·omega
        ·exact ⟨by omega, fun j h hj => if e : j < i then hpre j h e else (by have e2 : j = i := (by omega); subst e2; assumption)⟩
     try simp [zba, zbb, zbf, zbd] at hc3
     refine zb7 ?_
     refine zbq ?_
     have hcut : lessN l n = i := zks n l i (by omega) hpre (fun h => by first | (exfalso; omega) | assumption | simp_all)
     refine zd9 (us := l) 9 901 (by simp [zbe, zbc, zbj]) (by simp [zbe, zbc, zbj]) fun zs hz hone => ?_
     have hzl : zs.length = l.length := by rw [← hz]; simp
     have hzl2 : (zs.length = l.length) = True := eq_true hzl
     refine AW_x rfl rfl fun K hK => ?_
     simp (disch := omega)
     repeat' first | (exfalso; omega) | (refine zdm [9, 800] true [] (zta hzl [.s n, .g (.slice none 0 0)] (by simp [scal0]) i hi hl) ?_ ?_ ?_; (focus (simp [List.range_succ, nmC]; done)); (focus (simp (disch := omega) [zbp]; done)); simp (disch := omega)) | (refine ⟨fun _ => ?_, fun _ => ?_⟩) | (refine ⟨by omega, ?_⟩) | (simp (disch := omega)) | (intro _)
     all_goals (refine hK _ ?_; clear hK K)
     all_goals
      refine AW_ow (sz := 2) 816 905 (scR_ins zs n i) (by first | (simp [zbe, zbc, zbj]; done) | (rw [List.take_of_length_le (i := i) (by rw [List.length_map]; omega), List.drop_eq_nil_of_le (i := i) (by rw [List.length_map]; omega)]; simp [zbe, zbc, zbj]; done)) (by simp [zbe, zbc, zbj]) ?_
      refine zfk (LeS.parkN 901 (s := 3) (ps1 := (zs.take i).flatMap setP) (ps2 := (zs.drop i).flatMap setP) (by simp [zbe, zbc, zbj]; rw [← List.flatMap_append, List.take_append_drop])) ?_
      refine zfk (zhn (ks := zs.take i ++ newV n :: zs.drop i) (zs := zs.take i ++ newV n :: zs.drop i) 816 901 (by simp [zbe, zbc, zbj, zpj]) (by simp [zbe, zbc, zbj, zpk]) (List.Sublist.refl _)) ?_
      have hsn := ins_c hz n i
      rw [hsn]
      refine AW_x rfl rfl fun K hK => ?_
      simp (disch := omega)
      repeat' first | (refine ⟨by omega, ?_⟩) | (intro _)
      refine hK _ ?_; clear hK K
      refine zbo (zcc [816] [] (by simp [List.range_succ, zbc, zbj, zbe]) (by simp) ?_)
      simp (disch := omega)
      all_goals first | (have ⟨h1, h2⟩ := zrg hc1; rw [h1, h2]; exact ⟨rfl, rfl, rfl, rfl⟩) | (have ⟨h1, h2⟩ := zrh hc1 hc2; rw [h1, h2]; exact ⟨rfl, rfl, rfl, rfl⟩) | (have ⟨h1, h2⟩ := zri hc1 hc2; rw [h1, h2, hcut]; exact ⟨rfl, rfl, (by simp; omega), (by first | (simp [DtCSet.cells, List.map_take, List.map_drop]; done) | (rw [List.take_of_length_le (by omega : l.length ≤ i)]; simp [DtCSet.cells, List.map_drop]; done))⟩) | trace_state
end Go.Proofs.YtmheohnbkaoipaaGreat.Vs

import Derived.Test.YtmheohnbkaoipaaSKQ
open Go Go.Proofs Go.Proofs.Ytmheohnbkaoipaa.Vs
namespace Go.Proofs.Ytmheohnbkaoipaa.Vs
set_option linter.all false
set_option linter.unusedSimpArgs false
set_option linter.unusedVariables false
set_option maxRecDepth 100000
def CallAt (c : DtCall) : Prop := c.fStart < c.fEnd ∧ CmdP c.fCmd ∧ c.fCmd.fKind ≠ 0
def CallsP (l : List DtCall) : Prop := l.length ≤ 8 ∧ ∀ (i : Nat) c, l[i]? = some c → CallAt c
theorem ztx (l : List DtCall) (hs : szS DtCall.sz l ≤ 1048576) : l.length ≤ 1048576 ∧ ∀ i (h : i < l.length), DtCmd.sz l[i].fCmd ≤ 1048576 := by
 have h0 := zb9 DtCall.sz_nonneg l
 simp only [szS] at hs
 refine ⟨by omega, fun i h => ?_⟩
 have h1 := zdb DtCall.sz_nonneg l l[i] (List.getElem_mem _)
 simp only [DtCall.sz] at h1
 omega
attribute [local simp] DtCall.cells DtCmd.cells zba zbb
theorem zln (l : List DtCall) (hs : szS DtCall.sz l ≤ 1048576) : PCall Try.prog 76 [.sl 11 (l.map DtCall.cells)] (.g (.bool (decB (CallsP l)))) := by
 have ⟨hl, hl2⟩ := ztx l hs
 refine zbq Try.func76 (by rfl) (by rfl) (by rw [Try.ntmps76]; exact Nat.le_of_ble_eq_true rfl) rfl (by decide) ?_
 rw [Try.ntmps76]
 refine AW_k [(0, _)] ⟨rfl, trivial⟩ ?_
 refine AW_r rfl rfl fun K hK => ?_
 simp (disch := omega)
 repeat' first | (refine ⟨by omega, ?_⟩) | (intro _)
 refine hK _ ?_; clear hK K
 refine zbl ?_
 refine AW_r rfl rfl fun K hK => ?_
 simp (disch := omega)
 repeat' first | (refine ⟨by omega, ?_⟩) | (intro _)
 refine hK _ ?_; clear hK K
 refine zbk rfl (fun hc1 => ?_) (fun hc1 => ?_)
 ·try simp [zba, zbb, zbe, zbc] at hc1
  all_goals
   refine AW_r rfl rfl fun K hK => ?_
   simp (disch := omega)
   repeat' first | (exfalso; omega) | (refine ⟨fun _ => ?_, fun _ => ?_⟩) | (refine ⟨by omega, ?_⟩) | (intro _)
   all_goals (refine hK _ ?_; clear hK K)
   all_goals
    refine zbn (zb0 ?_)
    simp (disch := omega)
    all_goals first | grind [CallsP, CallAt] | (refine zca fun h => ?_; grind [CallsP, CallAt]) | (refine zcb ?_; grind [CallsP, CallAt])
 ·try simp [zba, zbb, zbe, zbc] at hc1
  all_goals
   refine zbm ?_
   refine zbr ?_
   refine zbl ?_
   refine AW_r rfl rfl fun K hK => ?_
   simp (disch := omega)
   repeat' first | (exfalso; omega) | (refine ⟨fun _ => ?_, fun _ => ?_⟩) | (refine ⟨by omega, ?_⟩) | (intro _)
   all_goals (refine hK _ ?_; clear hK K)
   all_goals
    refine zbs ?_
    refine zb3 (fun mM sS => ∃ (i : Nat), mM = l.length - i ∧ (i ≤ l.length ∧ ∀ (j : Nat) x, j < i → l[j]? = some x → CallAt x) ∧ sS = { env := lkE [(0, .sl 11 (l.map DtCall.cells)), (3, (.g (.int .i64 ((i : Nat)))))], ob := formOb [] [] }) ?_ ?_
    ·refine ⟨_, LeS.kp [(0, .sl 11 (l.map DtCall.cells)), (3, (.g (.int .i64 (((0) : Nat)))))] (by simp [KpE, zbf, zbt, zbd]; try rfl), _, 0, rfl, ?_, rfl⟩
     ·simp
    ·rintro mM sS ⟨i, rfl, ⟨hi, hpre⟩, rfl⟩
     refine zbl ?_
     refine AW_r rfl rfl fun K hK => ?_
     simp (disch := omega)
     repeat' first | (refine ⟨by omega, ?_⟩) | (intro _)
     refine hK _ ?_; clear hK K
     refine zbk rfl (fun hc2 => ?_) (fun hc2 => ?_)
     ·try simp [zba, zbb, zbe, zbc] at hc2
      all_goals
       have hg : l[i]? = some l[i] := List.getElem?_eq_getElem (by omega)
       have hm := hl2 i (by omega)
       refine zbm ?_
       refine zbr ?_
       refine zbl ?_
       refine zbs ?_
       refine AW_q rfl mix (by kernel_rfl) rfl fun K hK => ?_
       simp (disch := omega)
       repeat' first | (exfalso; omega) | (refine zcx (zbh (zb7 rfl) zbp) (zgi _ (by omega)) rfl ?_; simp (disch := omega)) | (refine ⟨fun _ => ?_, fun _ => ?_⟩) | (refine ⟨by omega, ?_⟩) | (intro _)
       all_goals (refine hK _ ?_; clear hK K)
       all_goals
        refine zbk rfl (fun hc3 => ?_) (fun hc3 => ?_)
        ·try simp [zba, zbb, zbe, zbc] at hc3
         all_goals
          refine AW_r rfl rfl fun K hK => ?_
          simp (disch := omega)
          repeat' first | (exfalso; omega) | (refine ⟨fun _ => ?_, fun _ => ?_⟩) | (refine ⟨by omega, ?_⟩) | (intro _)
          all_goals (refine hK _ ?_; clear hK K)
          all_goals
           refine zbn (zb0 ?_)
           simp (disch := omega)
           all_goals first | grind [CallsP, CallAt] | (refine zca fun h => ?_; grind [CallsP, CallAt]) | (refine zcb ?_; grind [CallsP, CallAt])
        ·try simp [zba, zbb, zbe, zbc] at hc3
         all_goals
          refine zbm ?_
          refine zbr ?_
          refine zc1 rfl rfl fun K hK => ?_
          simp (disch := omega)
          repeat' first | (exfalso; omega) | (refine ⟨fun _ => ?_, fun _ => ?_⟩) | (refine ⟨by omega, ?_⟩) | (intro _)
          all_goals (refine hK _ ?_; clear hK K)
          all_goals
           refine ⟨_, LeS.kp [(0, .sl 11 (l.map DtCall.cells)), (3, (.g (.int .i64 (((i + 1) : Nat)))))] (by simp [KpE, zbf, zbt, zbd]; try rfl), _, ?_, i + 1, rfl, ?_, rfl⟩
           ·omega
           ·refine ⟨by omega, ?_⟩; grind [CallAt]
     ·try simp [zba, zbb, zbe, zbc] at hc2
      all_goals
       refine zb8 ?_
       refine zbr ?_
       refine AW_r rfl rfl fun K hK => ?_
       simp (disch := omega)
       repeat' first | (exfalso; omega) | (refine ⟨fun _ => ?_, fun _ => ?_⟩) | (refine ⟨by omega, ?_⟩) | (intro _)
       all_goals (refine hK _ ?_; clear hK K)
       all_goals
        refine zbn (zb0 ?_)
        simp (disch := omega)
        all_goals first | grind [CallsP, CallAt] | (refine zca fun h => ?_; grind [CallsP, CallAt]) | (refine zcb ?_; grind [CallsP, CallAt])
theorem zlo (l : List DtCall) (hs : szS DtCall.sz l ≤ 1048576) : PCall Try.prog 78 [.sl 11 (l.map DtCall.cells)] (.g (.bool (decB (CallsP l)))) := by
 have ⟨hl, hl2⟩ := ztx l hs
 refine zbq Try.func78 (by rfl) (by rfl) (by rw [Try.ntmps78]; exact Nat.le_of_ble_eq_true rfl) rfl (by decide) ?_
 rw [Try.ntmps78]
 refine AW_k [(0, _)] ⟨rfl, trivial⟩ ?_
 refine AW_r rfl rfl fun K hK => ?_
 simp (disch := omega)
 repeat' first | (refine ⟨by omega, ?_⟩) | (intro _)
 refine hK _ ?_; clear hK K
 refine zbl ?_
 refine AW_r rfl rfl fun K hK => ?_
 simp (disch := omega)
 repeat' first | (refine ⟨by omega, ?_⟩) | (intro _)
 refine hK _ ?_; clear hK K
 refine zbs ?_
 refine zb3 (fun mM sS => ∃ (i : Nat), mM = l.length - i ∧ (i ≤ l.length ∧ ∀ (j : Nat) x, j < i → l[j]? = some x → CallAt x) ∧ sS = { env := lkE [(0, .sl 11 (l.map DtCall.cells)), (5, .sl 11 (l.map DtCall.cells)), (6, (.g (.int .i64 ((l.length : Nat))))), (7, (.g (.int .i64 ((i : Nat)))))], ob := lk [] }) ?_ ?_
 ·refine ⟨_, LeS.ko [(0, .sl 11 (l.map DtCall.cells)), (5, .sl 11 (l.map DtCall.cells)), (6, (.g (.int .i64 ((l.length : Nat))))), (7, (.g (.int .i64 (((0) : Nat)))))] [] (by simp [KpE, zbf, zbt, zbd]; try rfl) (by simp [KpO, zbf, zbd, zbi, zch]; try rfl) (by rfl) (by simp) (by rfl), _, 0, rfl, ?_, rfl⟩
  ·simp
 ·rintro mM sS ⟨i, rfl, ⟨hi, hpre⟩, rfl⟩
  refine AW_r rfl rfl fun K hK => ?_
  simp (disch := omega)
  repeat' first | (refine ⟨by omega, ?_⟩) | (intro _)
  refine hK _ ?_; clear hK K
  refine zbl ?_
  refine zbk rfl (fun hc4 => ?_) (fun hc4 => ?_)
  ·try simp [zba, zbb, zbe, zbc] at hc4
   all_goals
    have hg : l[i]? = some l[i] := List.getElem?_eq_getElem (by omega)
    have hm := hl2 i (by omega)
    refine zbm ?_
    refine zbr ?_
    refine zbl ?_
    refine zbs ?_
    refine AW_r rfl rfl fun K hK => ?_
    simp (disch := omega)
    repeat' first | (exfalso; omega) | (refine ⟨fun _ => ?_, fun _ => ?_⟩) | (refine ⟨by omega, ?_⟩) | (intro _)
    all_goals (refine hK _ ?_; clear hK K)
    all_goals
     refine AW_r rfl rfl fun K hK => ?_
     simp (disch := omega)
     repeat' first | (exfalso; omega) | (refine zcx (zbh (zb7 rfl) zbp) (zgj _ (by omega)) rfl ?_; simp (disch := omega)) | (refine ⟨fun _ => ?_, fun _ => ?_⟩) | (refine ⟨by omega, ?_⟩) | (intro _)
     all_goals (refine hK _ ?_; clear hK K)
     all_goals
      refine zbk rfl (fun hc5 => ?_) (fun hc5 => ?_)
      ·try simp [zba, zbb, zbe, zbc] at hc5
       all_goals
        refine AW_r rfl rfl fun K hK => ?_
        simp (disch := omega)
        repeat' first | (exfalso; omega) | (refine ⟨fun _ => ?_, fun _ => ?_⟩) | (refine ⟨by omega, ?_⟩) | (intro _)
        all_goals (refine hK _ ?_; clear hK K)
        all_goals
         refine zbn (zb0 ?_)
         simp (disch := omega)
         all_goals first | grind [CallsP, CallAt] | (refine zca fun h => ?_; grind [CallsP, CallAt]) | (refine zcb ?_; grind [CallsP, CallAt]) | (rw [Bool.eq_iff_iff, zba]; simp; grind [CallsP, CallAt])
      ·try simp [zba, zbb, zbe, zbc] at hc5
       all_goals
        refine zbm ?_
        refine zbr ?_
        refine zc1 rfl rfl fun K hK => ?_
        simp (disch := omega)
        repeat' first | (exfalso; omega) | (refine ⟨fun _ => ?_, fun _ => ?_⟩) | (refine ⟨by omega, ?_⟩) | (intro _)
        all_goals (refine hK _ ?_; clear hK K)
        all_goals
         refine ⟨_, LeS.ko [(0, .sl 11 (l.map DtCall.cells)), (5, .sl 11 (l.map DtCall.cells)), (6, (.g (.int .i64 ((l.length : Nat))))), (7, (.g (.int .i64 (((i + 1) : Nat)))))] [] (by simp [KpE, zbf, zbt, zbd]; try rfl) (by simp [KpO, zbf, zbd, zbi, zch]; try rfl) (by rfl) (by simp) (by rfl), _, ?_, i + 1, rfl, ?_, rfl⟩
         ·omega
         ·refine ⟨by omega, ?_⟩; grind [CallAt]
  ·try simp [zba, zbb, zbe, zbc] at hc4
   all_goals
    refine zb8 ?_
    refine zbr ?_
    refine AW_r rfl rfl fun K hK => ?_
    simp (disch := omega)
    repeat' first | (exfalso; omega) | (refine ⟨fun _ => ?_, fun _ => ?_⟩) | (refine ⟨by omega, ?_⟩) | (intro _)
    all_goals (refine hK _ ?_; clear hK K)
    all_goals
     refine zbn (zb0 ?_)
     simp (disch := omega)
     all_goals first | grind [CallsP, CallAt] | (refine zca fun h => ?_; grind [CallsP, CallAt]) | (refine zcb ?_; grind [CallsP, CallAt]) | (rw [Bool.eq_iff_iff, zba]; simp; grind [CallsP, CallAt])
end Go.Proofs.Ytmheohnbkaoipaa.Vs

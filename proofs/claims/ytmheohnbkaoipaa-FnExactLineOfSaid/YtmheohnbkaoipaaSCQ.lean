import Derived.Test.YtmheohnbkaoipaaSKQ
open Go Go.Proofs Go.Proofs.Ytmheohnbkaoipaa.Vs
namespace Go.Proofs.Ytmheohnbkaoipaa.Vs
set_option linter.all false
set_option linter.unusedSimpArgs false
set_option linter.unusedVariables false
set_option maxRecDepth 100000
def CallAt (c : DtCall) : Prop := c.fStart < c.fEnd ∧ CmdP c.fCmd ∧ c.fCmd.fKind ≠ 0
def CallsP (l : List DtCall) : Prop := l.length ≤ 8 ∧ ∀ (i : Nat) c, l[i]? = some c → CallAt c
theorem znh (l : List DtCall) (hs : szS DtCall.sz l ≤ 1048576) : l.length ≤ 1048576 ∧ ∀ i (h : i < l.length), DtCmd.sz l[i].fCmd ≤ 1048576 := by
 have h0 := zca DtCall.sz_nonneg l
 simp only [szS] at hs
 refine ⟨by omega, fun i h => ?_⟩
 have h1 := zc8 DtCall.sz_nonneg l l[i] (List.getElem_mem _)
 simp only [DtCall.sz] at h1
 omega
attribute [local simp] DtCall.cells DtCmd.cells zba zbb
theorem zl5 (l : List DtCall) (hs : szS DtCall.sz l ≤ 1048576) : PCall Try.prog 76 [.sl 11 (l.map DtCall.cells)] (.g (.bool (decB (CallsP l)))) := by
 have ⟨hl, hl2⟩ := znh l hs
 refine zbv Try.func76 (by rfl) (by rfl) (by rw [Try.ntmps76]; exact Nat.le_of_ble_eq_true rfl) rfl (by decide) ?_
 rw [Try.ntmps76]
 refine AW_k [(0, _)] ⟨rfl, trivial⟩ ?_
 refine AW_r rfl rfl fun K hK => ?_
 simp (disch := omega)
 repeat' first | (refine ⟨by omega, ?_⟩) | (intro _)
 refine hK _ ?_; clear hK K
 refine zbm ?_
 refine AW_r rfl rfl fun K hK => ?_
 simp (disch := omega)
 repeat' first | (refine ⟨by omega, ?_⟩) | (intro _)
 refine hK _ ?_; clear hK K
 refine zbl rfl (fun hc1 => ?_) (fun hc1 => ?_)
 ·try simp [zba, zbb, zbf, zbd] at hc1
  all_goals
   refine AW_r rfl rfl fun K hK => ?_
   simp (disch := omega)
   repeat' first | (exfalso; omega) | (refine ⟨fun _ => ?_, fun _ => ?_⟩) | (refine ⟨by omega, ?_⟩) | (intro _)
   all_goals (refine hK _ ?_; clear hK K)
   all_goals
    refine zbo (zb7 ?_)
    simp (disch := omega)
    all_goals first | grind [CallsP, CallAt] | (refine zc6 fun h => ?_; grind [CallsP, CallAt]) | (refine zcc ?_; grind [CallsP, CallAt])
 ·try simp [zba, zbb, zbf, zbd] at hc1
  all_goals
   refine zbn ?_
   refine zbq ?_
   refine zbm ?_
   refine AW_r rfl rfl fun K hK => ?_
   simp (disch := omega)
   repeat' first | (exfalso; omega) | (refine ⟨fun _ => ?_, fun _ => ?_⟩) | (refine ⟨by omega, ?_⟩) | (intro _)
   all_goals (refine hK _ ?_; clear hK K)
   all_goals
    refine zbr ?_
    refine zb0 (fun mM sS => ∃ (i : Nat), mM = l.length - i ∧ (i ≤ l.length ∧ ∀ (j : Nat) x, j < i → l[j]? = some x → CallAt x) ∧ sS = { env := lkE [(0, .sl 11 (l.map DtCall.cells)), (3, (.g (.int .i64 ((i : Nat)))))], ob := formOb [] [] }) ?_ ?_
    ·refine ⟨_, LeS.kp [(0, .sl 11 (l.map DtCall.cells)), (3, (.g (.int .i64 (((0) : Nat)))))] (by simp [KpE, zbe, zbu, zbc]; try rfl), _, 0, rfl, ?_, rfl⟩
     ·simp
    ·rintro mM sS ⟨i, rfl, ⟨hi, hpre⟩, rfl⟩
     refine zbm ?_
     refine AW_r rfl rfl fun K hK => ?_
     simp (disch := omega)
     repeat' first | (refine ⟨by omega, ?_⟩) | (intro _)
     refine hK _ ?_; clear hK K
     refine zbl rfl (fun hc2 => ?_) (fun hc2 => ?_)
     ·try simp [zba, zbb, zbf, zbd] at hc2
      all_goals
       have hg : l[i]? = some l[i] := List.getElem?_eq_getElem (by omega)
       have hm := hl2 i (by omega)
       refine zbn ?_
       refine zbq ?_
       refine zbm ?_
       refine zbr ?_
       refine AW_q rfl mix (by kernel_rfl) rfl fun K hK => ?_
       simp (disch := omega)
       repeat' first | (exfalso; omega) | (refine zc9 (zbi (zb9 rfl) zbt) (zgu _ (by omega)) rfl ?_; simp (disch := omega)) | (refine ⟨fun _ => ?_, fun _ => ?_⟩) | (refine ⟨by omega, ?_⟩) | (intro _)
       all_goals (refine hK _ ?_; clear hK K)
       all_goals
        refine zbl rfl (fun hc3 => ?_) (fun hc3 => ?_)
        ·try simp [zba, zbb, zbf, zbd] at hc3
         all_goals
          refine AW_r rfl rfl fun K hK => ?_
          simp (disch := omega)
          repeat' first | (exfalso; omega) | (refine ⟨fun _ => ?_, fun _ => ?_⟩) | (refine ⟨by omega, ?_⟩) | (intro _)
          all_goals (refine hK _ ?_; clear hK K)
          all_goals
           refine zbo (zb7 ?_)
           simp (disch := omega)
           all_goals first | grind [CallsP, CallAt] | (refine zc6 fun h => ?_; grind [CallsP, CallAt]) | (refine zcc ?_; grind [CallsP, CallAt])
        ·try simp [zba, zbb, zbf, zbd] at hc3
         all_goals
          refine zbn ?_
          refine zbq ?_
          refine zc3 rfl rfl fun K hK => ?_
          simp (disch := omega)
          repeat' first | (exfalso; omega) | (refine ⟨fun _ => ?_, fun _ => ?_⟩) | (refine ⟨by omega, ?_⟩) | (intro _)
          all_goals (refine hK _ ?_; clear hK K)
          all_goals
           refine ⟨_, LeS.kp [(0, .sl 11 (l.map DtCall.cells)), (3, (.g (.int .i64 (((i + 1) : Nat)))))] (by simp [KpE, zbe, zbu, zbc]; try rfl), _, ?_, i + 1, rfl, ?_, rfl⟩
           ·omega
           ·refine ⟨by omega, ?_⟩; grind [CallAt]
     ·try simp [zba, zbb, zbf, zbd] at hc2
      all_goals
       refine zb5 ?_
       refine zbq ?_
       refine AW_r rfl rfl fun K hK => ?_
       simp (disch := omega)
       repeat' first | (exfalso; omega) | (refine ⟨fun _ => ?_, fun _ => ?_⟩) | (refine ⟨by omega, ?_⟩) | (intro _)
       all_goals (refine hK _ ?_; clear hK K)
       all_goals
        refine zbo (zb7 ?_)
        simp (disch := omega)
        all_goals first | grind [CallsP, CallAt] | (refine zc6 fun h => ?_; grind [CallsP, CallAt]) | (refine zcc ?_; grind [CallsP, CallAt])
theorem zl6 (l : List DtCall) (hs : szS DtCall.sz l ≤ 1048576) : PCall Try.prog 78 [.sl 11 (l.map DtCall.cells)] (.g (.bool (decB (CallsP l)))) := by
 have ⟨hl, hl2⟩ := znh l hs
 refine zbv Try.func78 (by rfl) (by rfl) (by rw [Try.ntmps78]; exact Nat.le_of_ble_eq_true rfl) rfl (by decide) ?_
 rw [Try.ntmps78]
 refine AW_k [(0, _)] ⟨rfl, trivial⟩ ?_
 refine AW_r rfl rfl fun K hK => ?_
 simp (disch := omega)
 repeat' first | (refine ⟨by omega, ?_⟩) | (intro _)
 refine hK _ ?_; clear hK K
 refine zbm ?_
 refine AW_r rfl rfl fun K hK => ?_
 simp (disch := omega)
 repeat' first | (refine ⟨by omega, ?_⟩) | (intro _)
 refine hK _ ?_; clear hK K
 refine zbr ?_
 refine zb0 (fun mM sS => ∃ (i : Nat), mM = l.length - i ∧ (i ≤ l.length ∧ ∀ (j : Nat) x, j < i → l[j]? = some x → CallAt x) ∧ sS = { env := lkE [(0, .sl 11 (l.map DtCall.cells)), (5, .sl 11 (l.map DtCall.cells)), (6, (.g (.int .i64 ((l.length : Nat))))), (7, (.g (.int .i64 ((i : Nat)))))], ob := lk [] }) ?_ ?_
 ·refine ⟨_, LeS.ko [(0, .sl 11 (l.map DtCall.cells)), (5, .sl 11 (l.map DtCall.cells)), (6, (.g (.int .i64 ((l.length : Nat))))), (7, (.g (.int .i64 (((0) : Nat)))))] [] (by simp [KpE, zbe, zbu, zbc]; try rfl) (by simp [KpO, zbe, zbc, zbh, zcf]; try rfl) (by rfl) (by simp) (by rfl), _, 0, rfl, ?_, rfl⟩
  ·simp
 ·rintro mM sS ⟨i, rfl, ⟨hi, hpre⟩, rfl⟩
  refine AW_r rfl rfl fun K hK => ?_
  simp (disch := omega)
  repeat' first | (refine ⟨by omega, ?_⟩) | (intro _)
  refine hK _ ?_; clear hK K
  refine zbm ?_
  refine zbl rfl (fun hc4 => ?_) (fun hc4 => ?_)
  ·try simp [zba, zbb, zbf, zbd] at hc4
   all_goals
    have hg : l[i]? = some l[i] := List.getElem?_eq_getElem (by omega)
    have hm := hl2 i (by omega)
    refine zbn ?_
    refine zbq ?_
    refine zbm ?_
    refine zbr ?_
    refine AW_r rfl rfl fun K hK => ?_
    simp (disch := omega)
    repeat' first | (exfalso; omega) | (refine ⟨fun _ => ?_, fun _ => ?_⟩) | (refine ⟨by omega, ?_⟩) | (intro _)
    all_goals (refine hK _ ?_; clear hK K)
    all_goals
     refine AW_r rfl rfl fun K hK => ?_
     simp (disch := omega)
     repeat' first | (exfalso; omega) | (refine zc9 (zbi (zb9 rfl) zbt) (zgv _ (by omega)) rfl ?_; simp (disch := omega)) | (refine ⟨fun _ => ?_, fun _ => ?_⟩) | (refine ⟨by omega, ?_⟩) | (intro _)
     all_goals (refine hK _ ?_; clear hK K)
     all_goals
      refine zbl rfl (fun hc5 => ?_) (fun hc5 => ?_)
      ·try simp [zba, zbb, zbf, zbd] at hc5
       all_goals
        refine AW_r rfl rfl fun K hK => ?_
        simp (disch := omega)
        repeat' first | (exfalso; omega) | (refine ⟨fun _ => ?_, fun _ => ?_⟩) | (refine ⟨by omega, ?_⟩) | (intro _)
        all_goals (refine hK _ ?_; clear hK K)
        all_goals
         refine zbo (zb7 ?_)
         simp (disch := omega)
         all_goals first | grind [CallsP, CallAt] | (refine zc6 fun h => ?_; grind [CallsP, CallAt]) | (refine zcc ?_; grind [CallsP, CallAt]) | (rw [Bool.eq_iff_iff, zba]; simp; grind [CallsP, CallAt])
      ·try simp [zba, zbb, zbf, zbd] at hc5
       all_goals
        refine zbn ?_
        refine zbq ?_
        refine zc3 rfl rfl fun K hK => ?_
        simp (disch := omega)
        repeat' first | (exfalso; omega) | (refine ⟨fun _ => ?_, fun _ => ?_⟩) | (refine ⟨by omega, ?_⟩) | (intro _)
        all_goals (refine hK _ ?_; clear hK K)
        all_goals
         refine ⟨_, LeS.ko [(0, .sl 11 (l.map DtCall.cells)), (5, .sl 11 (l.map DtCall.cells)), (6, (.g (.int .i64 ((l.length : Nat))))), (7, (.g (.int .i64 (((i + 1) : Nat)))))] [] (by simp [KpE, zbe, zbu, zbc]; try rfl) (by simp [KpO, zbe, zbc, zbh, zcf]; try rfl) (by rfl) (by simp) (by rfl), _, ?_, i + 1, rfl, ?_, rfl⟩
         ·omega
         ·refine ⟨by omega, ?_⟩; grind [CallAt]
  ·try simp [zba, zbb, zbf, zbd] at hc4
   all_goals
    refine zb5 ?_
    refine zbq ?_
    refine AW_r rfl rfl fun K hK => ?_
    simp (disch := omega)
    repeat' first | (exfalso; omega) | (refine ⟨fun _ => ?_, fun _ => ?_⟩) | (refine ⟨by omega, ?_⟩) | (intro _)
    all_goals (refine hK _ ?_; clear hK K)
    all_goals
     refine zbo (zb7 ?_)
     simp (disch := omega)
     all_goals first | grind [CallsP, CallAt] | (refine zc6 fun h => ?_; grind [CallsP, CallAt]) | (refine zcc ?_; grind [CallsP, CallAt]) | (rw [Bool.eq_iff_iff, zba]; simp; grind [CallsP, CallAt])
end Go.Proofs.Ytmheohnbkaoipaa.Vs

import Derived.Test.YtmheohnbkaoipaaGreatSStV
import Derived.Test.YtmheohnbkaoipaaGreatSPlQ
open Go Go.Proofs Go.Proofs.YtmheohnbkaoipaaGreat.Vs
namespace Go.Proofs.YtmheohnbkaoipaaGreat.Vs
set_option linter.all false
set_option linter.unusedSimpArgs false
set_option linter.unusedVariables false
set_option maxRecDepth 100000
set_option maxHeartbeats 1000000
section
variable {P : Program} {rest : List CO} {K : St → Prop} {st : St} {dst : Option Nat} {f : FuncId} {l l' : List AV} {r : AV}
theorem XKd_r1 (n : Nat) {cs cs' : List AV} (ho : st.ob n = some (.cells cs) ∨ st.ob n = some (.rocells cs)) (hm : am1s st (nuOf [n] []) cs cs') (ha : am2s st (nuOf [n] []) l l') (hp : GCall P f l' [cs'] [] r []) (hs : scal r = true) (hk : xreg P rest (putC st dst r []) K) : XKd P rest K st dst f l := by
 refine .inl ⟨r, [], .inl ⟨[n], [], l', [cs'], [], [], hp, rfl, rfl, rfl, by simp, by simp, ha, ⟨⟨cs, ho, hm⟩, rfl⟩, rfl, ?_⟩, hk⟩
 simp [hs, zipW]
end
attribute [local simp] DtSaid.cells DtCmd.cells
theorem stateDo1 (x : DtSaid) (m : DtCmd) : GCall Tryz.prog 30 [.agg (DtSaid.cells x), .ptr 0 0] [DtCmd.cells m] [] (.g (.bool (decide (m.fClient ≤ x.fClient)))) [] := by
 refine zbu Tryz.func30 (by rfl) (by rfl) (by rw [Tryz.ntmps30]; exact Nat.le_of_ble_eq_true rfl) rfl (by decide) ?_
 rw [Tryz.ntmps30]
 refine AW_k [(0, _), (1, _)] ⟨rfl, rfl, trivial⟩ ?_
 refine AW_r rfl rfl fun K hK => ?_
 simp
 repeat' first | (refine ⟨by omega, ?_⟩) | (intro _)
 refine hK _ ?_; clear hK K
 refine AW_r rfl rfl fun K hK => ?_
 simp
 repeat' first | (refine ⟨by omega, ?_⟩) | (intro _)
 refine hK _ ?_; clear hK K
 refine zbo (zb4 ?_)
 simp
 all_goals first | rfl | (simp; done) | trace_state
attribute [-simp] DtCmd.cells
theorem zpu {F : FuncId} {cs : List AV} (hcs : cs.all plain1 = true) {p : DtSaid → Bool} (xs : List DtSaid) (hn : xs.length ≤ 1048576) (hf : ∀ x, GCall Tryz.prog F [.agg (DtSaid.cells x), .ptr 0 0] [cs] [] (.g (.bool (p x))) []) : GCall Tryz.prog 29 [.sl 3 (xs.map DtSaid.cells), .fn F [] [.ptr 0 0]] [cs] [] (.g (.int .i64 (idxZ p xs))) [] := by
 refine zbu Tryz.func29 (by rfl) (by rfl) (by rw [Tryz.ntmps29]; exact Nat.le_of_ble_eq_true rfl) rfl (by decide) ?_
 rw [Tryz.ntmps29]
 refine AW_k [(0, _), (1, _)] ⟨rfl, rfl, trivial⟩ ?_
 refine AW_r rfl rfl fun K hK => ?_
 simp (disch := omega)
 repeat' first | (refine zdh 0 (.inr rfl) (zcb cs hcs) (zbh (zbz rfl) (zbh zcv zbs)) (hf _) rfl ?_; try simp (disch := omega)) | (refine ⟨by omega, ?_⟩) | (intro _)
 refine hK _ ?_; clear hK K
 refine zbm ?_
 refine AW_r rfl rfl fun K hK => ?_
 simp (disch := omega)
 repeat' first | (refine zdh 0 (.inr rfl) (zcb cs hcs) (zbh (zbz rfl) (zbh zcv zbs)) (hf _) rfl ?_; try simp (disch := omega)) | (refine ⟨by omega, ?_⟩) | (intro _)
 refine hK _ ?_; clear hK K
 refine zbt ?_
 refine zb5 (fun mM sS => ∃ (i : Nat), mM = xs.length - i ∧ (i ≤ xs.length ∧ ∀ j x, j < i → xs[j]? = some x → p x = false) ∧ sS = { env := lkE [(0, .sl 3 (xs.map DtSaid.cells)), (1, .fn F [] [.ptr 0 0]), (6, .sl 3 (xs.map DtSaid.cells)), (7, (.g (.int .i64 ((xs.length : Nat))))), (8, (.g (.int .i64 ((i : Nat)))))], ob := formOb [cs] [] }) ?_ ?_
 ·refine ⟨_, LeS.kp [(0, .sl 3 (xs.map DtSaid.cells)), (1, .fn F [] [.ptr 0 0]), (6, .sl 3 (xs.map DtSaid.cells)), (7, (.g (.int .i64 ((xs.length : Nat))))), (8, (.g (.int .i64 (((0) : Nat)))))] (by simp [KpE, zbe, zbv, zbc]; try rfl), _, 0, rfl, ?_, rfl⟩
  ·simp
 ·rintro mM sS ⟨i, rfl, ⟨hi, hpre⟩, rfl⟩
  refine AW_r rfl rfl fun K hK => ?_
  simp (disch := omega)
  repeat' first | (refine zdh 0 (.inr rfl) (zcb cs hcs) (zbh (zbz rfl) (zbh zcv zbs)) (hf _) rfl ?_; try simp (disch := omega)) | (refine ⟨by omega, ?_⟩) | (intro _)
  refine hK _ ?_; clear hK K
  refine zbm ?_
  refine zbl rfl (fun hc1 => ?_) (fun hc1 => ?_)
  ·try simp [zba, zbb, zbf, zbd] at hc1
   all_goals
    have hg : xs[i]? = some (xs[i]) := List.getElem?_eq_getElem (by omega)
    refine zbn ?_
    refine zbq ?_
    refine zbm ?_
    refine zbt ?_
    refine AW_r rfl rfl fun K hK => ?_
    simp (disch := omega)
    repeat' first | (exfalso; omega) | (refine zdh 0 (.inr rfl) (zcb cs hcs) (zbh (zbz rfl) (zbh zcv zbs)) (hf _) rfl ?_; try simp (disch := omega)) | (refine ⟨fun _ => ?_, fun _ => ?_⟩) | (refine ⟨by omega, ?_⟩) | (intro _)
    all_goals (refine hK _ ?_; clear hK K)
    all_goals
     refine AW_r rfl rfl fun K hK => ?_
     simp (disch := omega)
     repeat' first | (refine zdh 0 (.inr rfl) (zcb cs hcs) (zbh (zbz rfl) (zbh zcv zbs)) (hf _) rfl ?_; try simp (disch := omega)) | (refine ⟨by omega, ?_⟩) | (intro _)
     refine hK _ ?_; clear hK K
     refine zbl rfl (fun hc2 => ?_) (fun hc2 => ?_)
     ·try simp [zba, zbb, zbf, zbd] at hc2
      all_goals
       refine AW_r rfl rfl fun K hK => ?_
       simp (disch := omega)
       repeat' first | (exfalso; omega) | (refine zdh 0 (.inr rfl) (zcb cs hcs) (zbh (zbz rfl) (zbh zcv zbs)) (hf _) rfl ?_; try simp (disch := omega)) | (refine ⟨fun _ => ?_, fun _ => ?_⟩) | (refine ⟨by omega, ?_⟩) | (intro _)
       all_goals (refine hK _ ?_; clear hK K)
       all_goals
        refine zbo (zb4 ?_)
        simp (disch := omega)
        all_goals first | (exact zc1 (by assumption) (by assumption) hpre) | (exact zdv (fun j x h => hpre j x (by omega)))
     try simp [zba, zbb, zbf, zbd] at hc2
     refine zbn ?_
     refine zbq ?_
     refine zc6 rfl rfl fun K hK => ?_
     simp (disch := omega)
     repeat' first | (exfalso; omega) | (refine zdh 0 (.inr rfl) (zcb cs hcs) (zbh (zbz rfl) (zbh zcv zbs)) (hf _) rfl ?_; try simp (disch := omega)) | (refine ⟨fun _ => ?_, fun _ => ?_⟩) | (refine ⟨by omega, ?_⟩) | (intro _)
     all_goals (refine hK _ ?_; clear hK K)
     all_goals
      refine ⟨_, LeS.kp [(0, .sl 3 (xs.map DtSaid.cells)), (1, .fn F [] [.ptr 0 0]), (6, .sl 3 (xs.map DtSaid.cells)), (7, (.g (.int .i64 ((xs.length : Nat))))), (8, (.g (.int .i64 (((i + 1) : Nat)))))] (by simp [KpE, zbe, zbv, zbc]; try rfl), _, ?_, i + 1, rfl, ?_, rfl⟩
      ·omega
      ·refine ⟨by omega, ?_⟩; grind
  try simp [zba, zbb, zbf, zbd] at hc1
  refine zb7 ?_
  refine zbq ?_
  refine AW_r rfl rfl fun K hK => ?_
  simp (disch := omega)
  repeat' first | (exfalso; omega) | (refine zdh 0 (.inr rfl) (zcb cs hcs) (zbh (zbz rfl) (zbh zcv zbs)) (hf _) rfl ?_; try simp (disch := omega)) | (refine ⟨fun _ => ?_, fun _ => ?_⟩) | (refine ⟨by omega, ?_⟩) | (intro _)
  all_goals (refine hK _ ?_; clear hK K)
  all_goals
   refine zbo (zb4 ?_)
   simp (disch := omega)
   all_goals first | (exact zc1 (by assumption) (by assumption) hpre) | (exact zdv (fun j x h => hpre j x (by omega)))
theorem zc5 (l : List DtSaid) : scR (l.map DtSaid.cells) = true := zfp DtSaid.cells (fun _ => rfl) l
attribute [local simp] DtState.cells DtCatalog.cells DtCmd.cells zbp and_assoc zc5
theorem zw1 (s : DtState) (hs : DtState.sz s ≤ 1048576) : XCall Tryz.prog 26 [.agg (DtState.cells s)] [] (.agg [.arr 16 0 s.fCat.fSets.length, .arr 17 0 s.fSaid.length]) [] [.own 2 (s.fCat.fSets.map DtCSet.cells), .own 3 (s.fSaid.map DtSaid.cells)] := by
 have ⟨hz, hl⟩ := zjw s hs
 have hB := zpf s.fCat hz
 refine zbx Tryz.func26 (by rfl) (by rfl) (by rw [Tryz.ntmps26]; exact Nat.le_of_ble_eq_true rfl) rfl (by simp) rfl rfl ?_
 rw [Tryz.ntmps26]
 refine zf1   ?_
 refine AW_k [(0, _)] ⟨rfl, trivial⟩ ?_
 refine AW_x rfl rfl fun K hK => ?_
 simp (disch := omega)
 repeat' first | (refine ⟨by omega, ?_⟩) | (intro _)
 refine hK _ ?_; clear hK K
 refine AW_d rfl mix (by kernel_rfl) (by kernel_rfl) fun K hK => ?_
 simp (disch := omega)
 repeat' first | (exfalso; omega) | (refine zhm [] true [] (zve s.fCat hB) ?_ (fun st' hst => ?_) ?_; (focus (simp [List.range_succ, nmC]; done)); (focus (simp (disch := omega) [nmC, List.range_succ] at hst; simp (disch := omega) [hst, zbp, nmC, List.range_succ]; done)); simp (disch := omega)) | (refine ⟨by omega, ?_⟩) | (simp (disch := omega)) | (intro _)
 refine hK _ _ (by kernel_rfl) ?_; clear hK K
 refine zbo (zcc [96, 144] [] (by simp [List.range_succ, zbc, zbj, zbe]) (by simp) ?_)
 simp (disch := omega)
 all_goals first | rfl | exact ⟨rfl, rfl⟩ | trace_state
theorem l16CopyX (s : DtState) (hs : DtState.sz s ≤ 1048576) : XCall Tryz.prog 19 [.agg (DtState.cells s)] [] (.agg [.arr 16 0 s.fCat.fSets.length, .arr 17 0 s.fSaid.length]) [] [.own 2 (s.fCat.fSets.map DtCSet.cells), .own 3 (s.fSaid.map DtSaid.cells)] := by
 have ⟨hz, hl⟩ := zjw s hs
 have hB := zpf s.fCat hz
 refine zbx Tryz.func19 (by rfl) (by rfl) (by rw [Tryz.ntmps19]; exact Nat.le_of_ble_eq_true rfl) rfl (by simp) rfl rfl ?_
 rw [Tryz.ntmps19]
 refine zf1   ?_
 refine AW_k [(0, _)] ⟨rfl, trivial⟩ ?_
 refine AW_x rfl rfl fun K hK => ?_
 simp (disch := omega)
 repeat' first | (refine ⟨by omega, ?_⟩) | (intro _)
 refine hK _ ?_; clear hK K
 refine AW_d rfl mix (by kernel_rfl) (by kernel_rfl) fun K hK => ?_
 simp (disch := omega)
 repeat' first | (exfalso; omega) | (refine zhm [] true [] (zvf s.fCat hB) ?_ (fun st' hst => ?_) ?_; (focus (simp [List.range_succ, nmC]; done)); (focus (simp (disch := omega) [nmC, List.range_succ] at hst; simp (disch := omega) [hst, zbp, nmC, List.range_succ]; done)); simp (disch := omega)) | (refine ⟨by omega, ?_⟩) | (simp (disch := omega)) | (intro _)
 refine hK _ _ (by kernel_rfl) ?_; clear hK K
 refine zbo (zcc [96, 160] [] (by simp [List.range_succ, zbc, zbj, zbe]) (by simp) ?_)
 simp (disch := omega)
 all_goals first | rfl | exact ⟨rfl, rfl⟩ | trace_state
end Go.Proofs.YtmheohnbkaoipaaGreat.Vs

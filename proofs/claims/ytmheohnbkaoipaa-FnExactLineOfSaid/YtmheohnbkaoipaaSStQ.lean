import Derived.Test.YtmheohnbkaoipaaSStV
import Derived.Test.YtmheohnbkaoipaaSPlQ
open Go Go.Proofs Go.Proofs.Ytmheohnbkaoipaa.Vs
namespace Go.Proofs.Ytmheohnbkaoipaa.Vs
set_option linter.all false
set_option linter.unusedSimpArgs false
set_option linter.unusedVariables false
set_option maxRecDepth 100000
set_option maxHeartbeats 1000000
section
variable {P : Program} {rest : List CO} {K : St → Prop} {st : St} {dst : Option Nat} {f : FuncId} {l l' : List AV} {r : AV}
theorem XKd_r1 (n : Nat) {cs cs' : List AV} (ho : st.ob n = some (.cells cs) ∨ st.ob n = some (.rocells cs)) (hm : am1s st (nuOf [n] []) cs cs') (ha : am2s st (nuOf [n] []) l l') (hp : GCall P f l' [cs'] [] r []) (hs : scal r = true) (hk : xreg P rest (putC st dst r []) K) : XKd P rest K st dst f l := by
 refine .inl ⟨r, [], .inl ⟨[n], [], l', [cs'], [], [], hp, rfl, rfl, rfl, by simp, by simp, ha, ⟨⟨cs, ho, hm⟩, rfl⟩, rfl, ?_⟩, hk⟩
 simp [hs, zipW]
end
attribute [local simp] DtSaid.cells DtCmd.cells
theorem stateDo1 (x : DtSaid) (m : DtCmd) : GCall Try.prog 116 [.agg (DtSaid.cells x), .ptr 0 0] [DtCmd.cells m] [] (.g (.bool (decide (m.fClient ≤ x.fClient)))) [] := by
 refine zbv Try.func116 (by rfl) (by rfl) (by rw [Try.ntmps116]; exact Nat.le_of_ble_eq_true rfl) rfl (by decide) ?_
 rw [Try.ntmps116]
 refine AW_k [(0, _), (1, _)] ⟨rfl, rfl, trivial⟩ ?_
 refine AW_r rfl rfl fun K hK => ?_
 simp
 repeat' first | (refine ⟨by omega, ?_⟩) | (intro _)
 refine hK _ ?_; clear hK K
 refine AW_r rfl rfl fun K hK => ?_
 simp
 repeat' first | (refine ⟨by omega, ?_⟩) | (intro _)
 refine hK _ ?_; clear hK K
 refine zbo (zb7 ?_)
 simp
 all_goals first | rfl | (simp; done) | trace_state
attribute [-simp] DtCmd.cells
theorem zp1 {F : FuncId} {cs : List AV} (hcs : cs.all plain1 = true) {p : DtSaid → Bool} (xs : List DtSaid) (hn : xs.length ≤ 1048576) (hf : ∀ x, GCall Try.prog F [.agg (DtSaid.cells x), .ptr 0 0] [cs] [] (.g (.bool (p x))) []) : GCall Try.prog 115 [.sl 3 (xs.map DtSaid.cells), .fn F [] [.ptr 0 0]] [cs] [] (.g (.int .i64 (idxZ p xs))) [] := by
 refine zbv Try.func115 (by rfl) (by rfl) (by rw [Try.ntmps115]; exact Nat.le_of_ble_eq_true rfl) rfl (by decide) ?_
 rw [Try.ntmps115]
 refine AW_k [(0, _), (1, _)] ⟨rfl, rfl, trivial⟩ ?_
 refine AW_r rfl rfl fun K hK => ?_
 simp (disch := omega)
 repeat' first | (refine zdb 0 (.inr rfl) (zbw cs hcs) (zbi (zb9 rfl) (zbi zcu zbt)) (hf _) rfl ?_; try simp (disch := omega)) | (refine ⟨by omega, ?_⟩) | (intro _)
 refine hK _ ?_; clear hK K
 refine zbm ?_
 refine AW_r rfl rfl fun K hK => ?_
 simp (disch := omega)
 repeat' first | (refine zdb 0 (.inr rfl) (zbw cs hcs) (zbi (zb9 rfl) (zbi zcu zbt)) (hf _) rfl ?_; try simp (disch := omega)) | (refine ⟨by omega, ?_⟩) | (intro _)
 refine hK _ ?_; clear hK K
 refine zbr ?_
 refine zb0 (fun mM sS => ∃ (i : Nat), mM = xs.length - i ∧ (i ≤ xs.length ∧ ∀ j x, j < i → xs[j]? = some x → p x = false) ∧ sS = { env := lkE [(0, .sl 3 (xs.map DtSaid.cells)), (1, .fn F [] [.ptr 0 0]), (6, .sl 3 (xs.map DtSaid.cells)), (7, (.g (.int .i64 ((xs.length : Nat))))), (8, (.g (.int .i64 ((i : Nat)))))], ob := formOb [cs] [] }) ?_ ?_
 ·refine ⟨_, LeS.kp [(0, .sl 3 (xs.map DtSaid.cells)), (1, .fn F [] [.ptr 0 0]), (6, .sl 3 (xs.map DtSaid.cells)), (7, (.g (.int .i64 ((xs.length : Nat))))), (8, (.g (.int .i64 (((0) : Nat)))))] (by simp [KpE, zbe, zbu, zbc]; try rfl), _, 0, rfl, ?_, rfl⟩
  ·simp
 ·rintro mM sS ⟨i, rfl, ⟨hi, hpre⟩, rfl⟩
  refine AW_r rfl rfl fun K hK => ?_
  simp (disch := omega)
  repeat' first | (refine zdb 0 (.inr rfl) (zbw cs hcs) (zbi (zb9 rfl) (zbi zcu zbt)) (hf _) rfl ?_; try simp (disch := omega)) | (refine ⟨by omega, ?_⟩) | (intro _)
  refine hK _ ?_; clear hK K
  refine zbm ?_
  refine zbl rfl (fun hc1 => ?_) (fun hc1 => ?_)
  ·try simp [zba, zbb, zbf, zbd] at hc1
   all_goals
    have hg : xs[i]? = some (xs[i]) := List.getElem?_eq_getElem (by omega)
    refine zbn ?_
    refine zbq ?_
    refine zbm ?_
    refine zbr ?_
    refine AW_r rfl rfl fun K hK => ?_
    simp (disch := omega)
    repeat' first | (exfalso; omega) | (refine zdb 0 (.inr rfl) (zbw cs hcs) (zbi (zb9 rfl) (zbi zcu zbt)) (hf _) rfl ?_; try simp (disch := omega)) | (refine ⟨fun _ => ?_, fun _ => ?_⟩) | (refine ⟨by omega, ?_⟩) | (intro _)
    all_goals (refine hK _ ?_; clear hK K)
    all_goals
     refine AW_r rfl rfl fun K hK => ?_
     simp (disch := omega)
     repeat' first | (refine zdb 0 (.inr rfl) (zbw cs hcs) (zbi (zb9 rfl) (zbi zcu zbt)) (hf _) rfl ?_; try simp (disch := omega)) | (refine ⟨by omega, ?_⟩) | (intro _)
     refine hK _ ?_; clear hK K
     refine zbl rfl (fun hc2 => ?_) (fun hc2 => ?_)
     ·try simp [zba, zbb, zbf, zbd] at hc2
      all_goals
       refine AW_r rfl rfl fun K hK => ?_
       simp (disch := omega)
       repeat' first | (exfalso; omega) | (refine zdb 0 (.inr rfl) (zbw cs hcs) (zbi (zb9 rfl) (zbi zcu zbt)) (hf _) rfl ?_; try simp (disch := omega)) | (refine ⟨fun _ => ?_, fun _ => ?_⟩) | (refine ⟨by omega, ?_⟩) | (intro _)
       all_goals (refine hK _ ?_; clear hK K)
       all_goals
        refine zbo (zb7 ?_)
        simp (disch := omega)
        all_goals first | (exact zcm (by assumption) (by assumption) hpre) | (exact zc7 (fun j x h => hpre j x (by omega)))
     try simp [zba, zbb, zbf, zbd] at hc2
     refine zbn ?_
     refine zbq ?_
     refine zc3 rfl rfl fun K hK => ?_
     simp (disch := omega)
     repeat' first | (exfalso; omega) | (refine zdb 0 (.inr rfl) (zbw cs hcs) (zbi (zb9 rfl) (zbi zcu zbt)) (hf _) rfl ?_; try simp (disch := omega)) | (refine ⟨fun _ => ?_, fun _ => ?_⟩) | (refine ⟨by omega, ?_⟩) | (intro _)
     all_goals (refine hK _ ?_; clear hK K)
     all_goals
      refine ⟨_, LeS.kp [(0, .sl 3 (xs.map DtSaid.cells)), (1, .fn F [] [.ptr 0 0]), (6, .sl 3 (xs.map DtSaid.cells)), (7, (.g (.int .i64 ((xs.length : Nat))))), (8, (.g (.int .i64 (((i + 1) : Nat)))))] (by simp [KpE, zbe, zbu, zbc]; try rfl), _, ?_, i + 1, rfl, ?_, rfl⟩
      ·omega
      ·refine ⟨by omega, ?_⟩; grind
  try simp [zba, zbb, zbf, zbd] at hc1
  refine zb5 ?_
  refine zbq ?_
  refine AW_r rfl rfl fun K hK => ?_
  simp (disch := omega)
  repeat' first | (exfalso; omega) | (refine zdb 0 (.inr rfl) (zbw cs hcs) (zbi (zb9 rfl) (zbi zcu zbt)) (hf _) rfl ?_; try simp (disch := omega)) | (refine ⟨fun _ => ?_, fun _ => ?_⟩) | (refine ⟨by omega, ?_⟩) | (intro _)
  all_goals (refine hK _ ?_; clear hK K)
  all_goals
   refine zbo (zb7 ?_)
   simp (disch := omega)
   all_goals first | (exact zcm (by assumption) (by assumption) hpre) | (exact zc7 (fun j x h => hpre j x (by omega)))
theorem zcz (l : List DtSaid) : scR (l.map DtSaid.cells) = true := zdv DtSaid.cells (fun _ => rfl) l
attribute [local simp] DtState.cells DtCatalog.cells DtCmd.cells zbp and_assoc zcz
theorem zxc (s : DtState) (hs : DtState.sz s ≤ 1048576) : XCall Try.prog 113 [.agg (DtState.cells s)] [] (.agg [.arr 16 0 s.fCat.fSets.length, .arr 17 0 s.fSaid.length]) [] [.own 2 (s.fCat.fSets.map DtCSet.cells), .own 3 (s.fSaid.map DtSaid.cells)] := by
 have ⟨hz, hl⟩ := zjm s hs
 have hB := zpn s.fCat hz
 refine zbx Try.func113 (by rfl) (by rfl) (by rw [Try.ntmps113]; exact Nat.le_of_ble_eq_true rfl) rfl (by simp) rfl rfl ?_
 rw [Try.ntmps113]
 refine zgg   ?_
 refine AW_k [(0, _)] ⟨rfl, trivial⟩ ?_
 refine AW_x rfl rfl fun K hK => ?_
 simp (disch := omega)
 repeat' first | (refine ⟨by omega, ?_⟩) | (intro _)
 refine hK _ ?_; clear hK K
 refine AW_d rfl mix (by kernel_rfl) (by kernel_rfl) fun K hK => ?_
 simp (disch := omega)
 repeat' first | (exfalso; omega) | (refine zpi [] true [] (zvk s.fCat hB) ?_ (fun st' hst => ?_) ?_; (focus (simp [List.range_succ, nmC]; done)); (focus (simp (disch := omega) [nmC, List.range_succ] at hst; simp (disch := omega) [hst, zbp, nmC, List.range_succ]; done)); simp (disch := omega)) | (refine ⟨by omega, ?_⟩) | (simp (disch := omega)) | (intro _)
 refine hK _ _ (by kernel_rfl) ?_; clear hK K
 refine zbo (zcb [96, 144] [] (by simp [List.range_succ, zbc, zbh, zbe]) (by simp) ?_)
 simp (disch := omega)
 all_goals first | rfl | exact ⟨rfl, rfl⟩ | trace_state
theorem l16CopyX (s : DtState) (hs : DtState.sz s ≤ 1048576) : XCall Try.prog 111 [.agg (DtState.cells s)] [] (.agg [.arr 16 0 s.fCat.fSets.length, .arr 17 0 s.fSaid.length]) [] [.own 2 (s.fCat.fSets.map DtCSet.cells), .own 3 (s.fSaid.map DtSaid.cells)] := by
 have ⟨hz, hl⟩ := zjm s hs
 have hB := zpn s.fCat hz
 refine zbx Try.func111 (by rfl) (by rfl) (by rw [Try.ntmps111]; exact Nat.le_of_ble_eq_true rfl) rfl (by simp) rfl rfl ?_
 rw [Try.ntmps111]
 refine zgg   ?_
 refine AW_k [(0, _)] ⟨rfl, trivial⟩ ?_
 refine AW_x rfl rfl fun K hK => ?_
 simp (disch := omega)
 repeat' first | (refine ⟨by omega, ?_⟩) | (intro _)
 refine hK _ ?_; clear hK K
 refine AW_d rfl mix (by kernel_rfl) (by kernel_rfl) fun K hK => ?_
 simp (disch := omega)
 repeat' first | (exfalso; omega) | (refine zpi [] true [] (zvl s.fCat hB) ?_ (fun st' hst => ?_) ?_; (focus (simp [List.range_succ, nmC]; done)); (focus (simp (disch := omega) [nmC, List.range_succ] at hst; simp (disch := omega) [hst, zbp, nmC, List.range_succ]; done)); simp (disch := omega)) | (refine ⟨by omega, ?_⟩) | (simp (disch := omega)) | (intro _)
 refine hK _ _ (by kernel_rfl) ?_; clear hK K
 refine zbo (zcb [96, 160] [] (by simp [List.range_succ, zbc, zbh, zbe]) (by simp) ?_)
 simp (disch := omega)
 all_goals first | rfl | exact ⟨rfl, rfl⟩ | trace_state
end Go.Proofs.Ytmheohnbkaoipaa.Vs

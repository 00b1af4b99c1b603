import Derived.Test.YtmheohnbkaoipaaSStV
import Derived.Test.YtmheohnbkaoipaaSPlQ
open Go Go.Proofs Go.Proofs.Ytmheohnbkaoipaa.Vs
namespace Go.Proofs.Ytmheohnbkaoipaa.Vs
set_option linter.all false
set_option linter.unusedSimpArgs false
set_option linter.unusedVariables false
set_option maxRecDepth 100000
set_option maxHeartbeats 1000000
section
variable {P : Program} {rest : List CO} {K : St → Prop} {st : St} {dst : Option Nat} {f : FuncId} {l l' : List AV} {r : AV}
theorem XKd_r1 (n : Nat) {cs cs' : List AV} (ho : st.ob n = some (.cells cs) ∨ st.ob n = some (.rocells cs)) (hm : am1s st (nuOf [n] []) cs cs') (ha : am2s st (nuOf [n] []) l l') (hp : GCall P f l' [cs'] [] r []) (hs : scal r = true) (hk : xreg P rest (putC st dst r []) K) : XKd P rest K st dst f l := by
 refine .inl ⟨r, [], .inl ⟨[n], [], l', [cs'], [], [], hp, rfl, rfl, rfl, by simp, by simp, ha, ⟨⟨cs, ho, hm⟩, rfl⟩, rfl, ?_⟩, hk⟩
 simp [hs, zipW]
end
attribute [local simp] DtSaid.cells DtCmd.cells
theorem stateDo1 (x : DtSaid) (m : DtCmd) : GCall Try.prog 116 [.agg (DtSaid.cells x), .ptr 0 0] [DtCmd.cells m] [] (.g (.bool (decide (m.fClient ≤ x.fClient)))) [] := by
 refine zbq Try.func116 (by rfl) (by rfl) (by rw [Try.ntmps116]; exact Nat.le_of_ble_eq_true rfl) rfl (by decide) ?_
 rw [Try.ntmps116]
 refine AW_k [(0, _), (1, _)] ⟨rfl, rfl, trivial⟩ ?_
 refine AW_r rfl rfl fun K hK => ?_
 simp
 repeat' first | (refine ⟨by omega, ?_⟩) | (intro _)
 refine hK _ ?_; clear hK K
 refine AW_r rfl rfl fun K hK => ?_
 simp
 repeat' first | (refine ⟨by omega, ?_⟩) | (intro _)
 refine hK _ ?_; clear hK K
 refine zbn (zb0 ?_)
 simp
 all_goals first | rfl | (simp; done) | trace_state
attribute [-simp] DtCmd.cells
theorem zn2 {F : FuncId} {cs : List AV} (hcs : cs.all plain1 = true) {p : DtSaid → Bool} (xs : List DtSaid) (hn : xs.length ≤ 1048576) (hf : ∀ x, GCall Try.prog F [.agg (DtSaid.cells x), .ptr 0 0] [cs] [] (.g (.bool (p x))) []) : GCall Try.prog 115 [.sl 3 (xs.map DtSaid.cells), .fn F [] [.ptr 0 0]] [cs] [] (.g (.int .i64 (idxZ p xs))) [] := by
 refine zbq Try.func115 (by rfl) (by rfl) (by rw [Try.ntmps115]; exact Nat.le_of_ble_eq_true rfl) rfl (by decide) ?_
 rw [Try.ntmps115]
 refine AW_k [(0, _), (1, _)] ⟨rfl, rfl, trivial⟩ ?_
 refine AW_r rfl rfl fun K hK => ?_
 simp (disch := omega)
 repeat' first | (refine zc8 0 (.inr rfl) (zbw cs hcs) (zbh (zb7 rfl) (zbh zcr zbp)) (hf _) rfl ?_; try simp (disch := omega)) | (refine ⟨by omega, ?_⟩) | (intro _)
 refine hK _ ?_; clear hK K
 refine zbl ?_
 refine AW_r rfl rfl fun K hK => ?_
 simp (disch := omega)
 repeat' first | (refine zc8 0 (.inr rfl) (zbw cs hcs) (zbh (zb7 rfl) (zbh zcr zbp)) (hf _) rfl ?_; try simp (disch := omega)) | (refine ⟨by omega, ?_⟩) | (intro _)
 refine hK _ ?_; clear hK K
 refine zbs ?_
 refine zb3 (fun mM sS => ∃ (i : Nat), mM = xs.length - i ∧ (i ≤ xs.length ∧ ∀ j x, j < i → xs[j]? = some x → p x = false) ∧ sS = { env := lkE [(0, .sl 3 (xs.map DtSaid.cells)), (1, .fn F [] [.ptr 0 0]), (6, .sl 3 (xs.map DtSaid.cells)), (7, (.g (.int .i64 ((xs.length : Nat))))), (8, (.g (.int .i64 ((i : Nat)))))], ob := formOb [cs] [] }) ?_ ?_
 ·refine ⟨_, LeS.kp [(0, .sl 3 (xs.map DtSaid.cells)), (1, .fn F [] [.ptr 0 0]), (6, .sl 3 (xs.map DtSaid.cells)), (7, (.g (.int .i64 ((xs.length : Nat))))), (8, (.g (.int .i64 (((0) : Nat)))))] (by simp [KpE, zbf, zbt, zbd]; try rfl), _, 0, rfl, ?_, rfl⟩
  ·simp
 ·rintro mM sS ⟨i, rfl, ⟨hi, hpre⟩, rfl⟩
  refine AW_r rfl rfl fun K hK => ?_
  simp (disch := omega)
  repeat' first | (refine zc8 0 (.inr rfl) (zbw cs hcs) (zbh (zb7 rfl) (zbh zcr zbp)) (hf _) rfl ?_; try simp (disch := omega)) | (refine ⟨by omega, ?_⟩) | (intro _)
  refine hK _ ?_; clear hK K
  refine zbl ?_
  refine zbk rfl (fun hc1 => ?_) (fun hc1 => ?_)
  ·try simp [zba, zbb, zbe, zbc] at hc1
   all_goals
    have hg : xs[i]? = some (xs[i]) := List.getElem?_eq_getElem (by omega)
    refine zbm ?_
    refine zbr ?_
    refine zbl ?_
    refine zbs ?_
    refine AW_r rfl rfl fun K hK => ?_
    simp (disch := omega)
    repeat' first | (exfalso; omega) | (refine zc8 0 (.inr rfl) (zbw cs hcs) (zbh (zb7 rfl) (zbh zcr zbp)) (hf _) rfl ?_; try simp (disch := omega)) | (refine ⟨fun _ => ?_, fun _ => ?_⟩) | (refine ⟨by omega, ?_⟩) | (intro _)
    all_goals (refine hK _ ?_; clear hK K)
    all_goals
     refine AW_r rfl rfl fun K hK => ?_
     simp (disch := omega)
     repeat' first | (refine zc8 0 (.inr rfl) (zbw cs hcs) (zbh (zb7 rfl) (zbh zcr zbp)) (hf _) rfl ?_; try simp (disch := omega)) | (refine ⟨by omega, ?_⟩) | (intro _)
     refine hK _ ?_; clear hK K
     refine zbk rfl (fun hc2 => ?_) (fun hc2 => ?_)
     ·try simp [zba, zbb, zbe, zbc] at hc2
      all_goals
       refine AW_r rfl rfl fun K hK => ?_
       simp (disch := omega)
       repeat' first | (exfalso; omega) | (refine zc8 0 (.inr rfl) (zbw cs hcs) (zbh (zb7 rfl) (zbh zcr zbp)) (hf _) rfl ?_; try simp (disch := omega)) | (refine ⟨fun _ => ?_, fun _ => ?_⟩) | (refine ⟨by omega, ?_⟩) | (intro _)
       all_goals (refine hK _ ?_; clear hK K)
       all_goals
        refine zbn (zb0 ?_)
        simp (disch := omega)
        all_goals first | (exact zck (by assumption) (by assumption) hpre) | (exact zc6 (fun j x h => hpre j x (by omega)))
     try simp [zba, zbb, zbe, zbc] at hc2
     refine zbm ?_
     refine zbr ?_
     refine zc1 rfl rfl fun K hK => ?_
     simp (disch := omega)
     repeat' first | (exfalso; omega) | (refine zc8 0 (.inr rfl) (zbw cs hcs) (zbh (zb7 rfl) (zbh zcr zbp)) (hf _) rfl ?_; try simp (disch := omega)) | (refine ⟨fun _ => ?_, fun _ => ?_⟩) | (refine ⟨by omega, ?_⟩) | (intro _)
     all_goals (refine hK _ ?_; clear hK K)
     all_goals
      refine ⟨_, LeS.kp [(0, .sl 3 (xs.map DtSaid.cells)), (1, .fn F [] [.ptr 0 0]), (6, .sl 3 (xs.map DtSaid.cells)), (7, (.g (.int .i64 ((xs.length : Nat))))), (8, (.g (.int .i64 (((i + 1) : Nat)))))] (by simp [KpE, zbf, zbt, zbd]; try rfl), _, ?_, i + 1, rfl, ?_, rfl⟩
      ·omega
      ·refine ⟨by omega, ?_⟩; grind
  try simp [zba, zbb, zbe, zbc] at hc1
  refine zb8 ?_
  refine zbr ?_
  refine AW_r rfl rfl fun K hK => ?_
  simp (disch := omega)
  repeat' first | (exfalso; omega) | (refine zc8 0 (.inr rfl) (zbw cs hcs) (zbh (zb7 rfl) (zbh zcr zbp)) (hf _) rfl ?_; try simp (disch := omega)) | (refine ⟨fun _ => ?_, fun _ => ?_⟩) | (refine ⟨by omega, ?_⟩) | (intro _)
  all_goals (refine hK _ ?_; clear hK K)
  all_goals
   refine zbn (zb0 ?_)
   simp (disch := omega)
   all_goals first | (exact zck (by assumption) (by assumption) hpre) | (exact zc6 (fun j x h => hpre j x (by omega)))
theorem zc0 (l : List DtSaid) : scR (l.map DtSaid.cells) = true := zdy DtSaid.cells (fun _ => rfl) l
attribute [local simp] DtState.cells DtCatalog.cells DtCmd.cells zbu and_assoc zc0
theorem zvz (s : DtState) (hs : DtState.sz s ≤ 1048576) : XCall Try.prog 113 [.agg (DtState.cells s)] [] (.agg [.arr 16 0 s.fCat.fSets.length, .arr 17 0 s.fSaid.length]) [] [.own 2 (s.fCat.fSets.map DtCSet.cells), .own 3 (s.fSaid.map DtSaid.cells)] := by
 have ⟨hz, hl⟩ := zh6 s hs
 have hB := zno s.fCat hz
 refine zb5 Try.func113 (by rfl) (by rfl) (by rw [Try.ntmps113]; exact Nat.le_of_ble_eq_true rfl) rfl (by simp) rfl rfl ?_
 rw [Try.ntmps113]
 refine zji   ?_
 refine AW_k [(0, _)] ⟨rfl, trivial⟩ ?_
 refine AW_x rfl rfl fun K hK => ?_
 simp (disch := omega)
 repeat' first | (refine ⟨by omega, ?_⟩) | (intro _)
 refine hK _ ?_; clear hK K
 refine AW_d rfl mix (by kernel_rfl) (by kernel_rfl) fun K hK => ?_
 simp (disch := omega)
 repeat' first | (exfalso; omega) | (refine znm [] true [] (ztd s.fCat hB) ?_ (fun st' hst => ?_) ?_; (focus (simp [List.range_succ, nmC]; done)); (focus (simp (disch := omega) [nmC, List.range_succ] at hst; simp (disch := omega) [hst, zbu, nmC, List.range_succ]; done)); simp (disch := omega)) | (refine ⟨by omega, ?_⟩) | (simp (disch := omega)) | (intro _)
 refine hK _ _ (by kernel_rfl) ?_; clear hK K
 refine zbn (zcf [96, 144] [] (by simp [List.range_succ, zbd, zbi, zbf]) (by simp) ?_)
 simp (disch := omega)
 all_goals first | rfl | exact ⟨rfl, rfl⟩ | trace_state
theorem l16CopyX (s : DtState) (hs : DtState.sz s ≤ 1048576) : XCall Try.prog 111 [.agg (DtState.cells s)] [] (.agg [.arr 16 0 s.fCat.fSets.length, .arr 17 0 s.fSaid.length]) [] [.own 2 (s.fCat.fSets.map DtCSet.cells), .own 3 (s.fSaid.map DtSaid.cells)] := by
 have ⟨hz, hl⟩ := zh6 s hs
 have hB := zno s.fCat hz
 refine zb5 Try.func111 (by rfl) (by rfl) (by rw [Try.ntmps111]; exact Nat.le_of_ble_eq_true rfl) rfl (by simp) rfl rfl ?_
 rw [Try.ntmps111]
 refine zji   ?_
 refine AW_k [(0, _)] ⟨rfl, trivial⟩ ?_
 refine AW_x rfl rfl fun K hK => ?_
 simp (disch := omega)
 repeat' first | (refine ⟨by omega, ?_⟩) | (intro _)
 refine hK _ ?_; clear hK K
 refine AW_d rfl mix (by kernel_rfl) (by kernel_rfl) fun K hK => ?_
 simp (disch := omega)
 repeat' first | (exfalso; omega) | (refine znm [] true [] (zte s.fCat hB) ?_ (fun st' hst => ?_) ?_; (focus (simp [List.range_succ, nmC]; done)); (focus (simp (disch := omega) [nmC, List.range_succ] at hst; simp (disch := omega) [hst, zbu, nmC, List.range_succ]; done)); simp (disch := omega)) | (refine ⟨by omega, ?_⟩) | (simp (disch := omega)) | (intro _)
 refine hK _ _ (by kernel_rfl) ?_; clear hK K
 refine zbn (zcf [96, 160] [] (by simp [List.range_succ, zbd, zbi, zbf]) (by simp) ?_)
 simp (disch := omega)
 all_goals first | rfl | exact ⟨rfl, rfl⟩ | trace_state
end Go.Proofs.Ytmheohnbkaoipaa.Vs

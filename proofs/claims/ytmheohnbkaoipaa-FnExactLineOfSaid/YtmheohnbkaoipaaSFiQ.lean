import Derived.Test.YtmheohnbkaoipaaSFiV
import Derived.Test.YtmheohnbkaoipaaSCQ
open Go Go.Proofs Go.Proofs.Ytmheohnbkaoipaa.Vs
namespace Go.Proofs.Ytmheohnbkaoipaa.Vs
set_option linter.all false
set_option linter.unusedSimpArgs false
set_option linter.unusedVariables false
set_option maxRecDepth 100000
set_option maxHeartbeats 2000000
section
variable {P : Program} {q : Bool} {rest : List CO} {K : St → Prop} {st : St} {dst : Option Nat} {f : FuncId} {l l' : List AV} {r : AV}
theorem zgw (n m : Nat) (hnm : n ≠ m) {cs cs' ds ds' : List AV} (ho : st.ob n = some (.cells cs) ∨ st.ob n = some (.rocells cs)) (ho2 : st.ob m = some (.cells ds) ∨ st.ob m = some (.rocells ds)) (hm : am1s st (nuOf [n, m] []) cs cs') (hm2 : am1s st (nuOf [n, m] []) ds ds') (ha : am2s st (nuOf [n, m] []) l l') (hp : GCall P f l' [cs', ds'] [] r []) (hs : scal r = true) (hk : creg P q rest (putC st dst r []) K) : CKd P q rest K st dst f l := by
 refine ⟨r, [], ⟨[n, m], [], l', [cs', ds'], [], [], hp, rfl, rfl, rfl, by simp, by simpa using hnm, ha, ⟨⟨cs, ho, hm⟩, ⟨ds, ho2, hm2⟩, rfl⟩, rfl, ?_⟩, fun _ => rfl, hk⟩
 simp [hs, zipW]
theorem zf0 {n m off : Nat} : am2 st (nuOf [n, m] []) (.ptr m off) (.ptr 1 off) := ⟨rfl, rfl⟩
theorem ztl {n m off off' : Nat} {g : FuncId} : am2 st (nuOf [n, m] []) (.fn g [] [.ptr n off, .ptr m off']) (.fn g [] [.ptr 0 off, .ptr 1 off']) := ⟨rfl, rfl, ⟨⟨rfl, rfl⟩, ⟨rfl, rfl⟩, rfl⟩⟩
theorem zjt {n m off : Nat} : am2 st (nuOf [n, m] []) (.ptr n off) (.ptr 0 off) := ⟨rfl, rfl⟩
end
theorem zft (cs ds : List AV) (n : Nat) : formOb [cs, ds] [] n = if n = 0 then some (.rocells cs) else if n = 1 then some (.rocells ds) else none := by
 unfold formOb
 by_cases h : n = 0
 ·subst h; simp
 ·by_cases h1 : n = 1
  ·subst h1; simp
  ·rw [if_neg h, if_neg h1]
   split
   ·obtain ⟨k, rfl⟩ : ∃ k, n = k + 2 := ⟨n - 2, by omega⟩
    simp
   ·simp
attribute [local simp] cI
theorem indexI (l : List Int) (x : Int) (hn : l.length ≤ 1048576) : PCall Try.prog 119 [.sl 1 (l.map cI), (.g (.int .i64 (x)))] (.g (.int .i64 (idxZ (fun y => decide (x = y)) l))) := by
 refine zbv Try.func119 (by rfl) (by rfl) (by rw [Try.ntmps119]; exact Nat.le_of_ble_eq_true rfl) rfl (by decide) ?_
 rw [Try.ntmps119]
 refine AW_k [(0, _), (1, _)] ⟨rfl, rfl, trivial⟩ ?_
 refine AW_r rfl rfl fun K hK => ?_
 simp (disch := omega)
 repeat' first | (refine ⟨by omega, ?_⟩) | (intro _)
 refine hK _ ?_; clear hK K
 refine zbm ?_
 refine AW_r rfl rfl fun K hK => ?_
 simp (disch := omega)
 repeat' first | (refine ⟨by omega, ?_⟩) | (intro _)
 refine hK _ ?_; clear hK K
 refine zbr ?_
 refine zb0 (fun mM sS => ∃ (i : Nat), mM = l.length - i ∧ (i ≤ l.length ∧ ∀ (j : Nat) y, j < i → l[j]? = some y → decide (x = y) = false) ∧ sS = { env := lkE [(0, .sl 1 (l.map cI)), (1, (.g (.int .i64 (x)))), (6, .sl 1 (l.map cI)), (7, (.g (.int .i64 ((l.length : Nat))))), (8, (.g (.int .i64 ((i : Nat)))))], ob := formOb [] [] }) ?_ ?_
 ·refine ⟨_, LeS.kp [(0, .sl 1 (l.map cI)), (1, (.g (.int .i64 (x)))), (6, .sl 1 (l.map cI)), (7, (.g (.int .i64 ((l.length : Nat))))), (8, (.g (.int .i64 (((0) : Nat)))))] (by simp [KpE, zbe, zbu, zbc]; try rfl), _, 0, rfl, ?_, rfl⟩
  ·simp
 ·rintro mM sS ⟨i, rfl, ⟨hi, hpre⟩, rfl⟩
  refine AW_r rfl rfl fun K hK => ?_
  simp (disch := omega)
  repeat' first | (refine ⟨by omega, ?_⟩) | (intro _)
  refine hK _ ?_; clear hK K
  refine zbm ?_
  refine zbl rfl (fun hc1 => ?_) (fun hc1 => ?_)
  ·try simp [zba, zbb, zbf, zbd] at hc1
   all_goals
    have hg : l[i]? = some l[i] := List.getElem?_eq_getElem (by omega)
    refine zbn ?_
    refine zbq ?_
    refine zbm ?_
    refine zbr ?_
    refine AW_r rfl rfl fun K hK => ?_
    simp (disch := omega)
    repeat' first | (exfalso; omega) | (refine ⟨fun _ => ?_, fun _ => ?_⟩) | (refine ⟨by omega, ?_⟩) | (intro _)
    all_goals (refine hK _ ?_; clear hK K)
    all_goals
     refine AW_r rfl rfl fun K hK => ?_
     simp (disch := omega)
     repeat' first | (refine ⟨by omega, ?_⟩) | (intro _)
     refine hK _ ?_; clear hK K
     refine zbl rfl (fun hc2 => ?_) (fun hc2 => ?_)
     ·try simp [zba, zbb, zbf, zbd] at hc2
      all_goals
       refine AW_r rfl rfl fun K hK => ?_
       simp (disch := omega)
       repeat' first | (exfalso; omega) | (refine ⟨fun _ => ?_, fun _ => ?_⟩) | (refine ⟨by omega, ?_⟩) | (intro _)
       all_goals (refine hK _ ?_; clear hK K)
       all_goals
        refine zbo (zb7 ?_)
        simp (disch := omega)
        all_goals first | (exact zcm (by assumption) (by simp_all) hpre) | (exact zc7 (fun j x h => hpre j x (by omega))) | trace_state
     try simp [zba, zbb, zbf, zbd] at hc2
     refine zbn ?_
     refine zbq ?_
     refine zc3 rfl rfl fun K hK => ?_
     simp (disch := omega)
     repeat' first | (exfalso; omega) | (refine ⟨fun _ => ?_, fun _ => ?_⟩) | (refine ⟨by omega, ?_⟩) | (intro _)
     all_goals (refine hK _ ?_; clear hK K)
     all_goals
      refine ⟨_, LeS.kp [(0, .sl 1 (l.map cI)), (1, (.g (.int .i64 (x)))), (6, .sl 1 (l.map cI)), (7, (.g (.int .i64 ((l.length : Nat))))), (8, (.g (.int .i64 (((i + 1) : Nat)))))] (by simp [KpE, zbe, zbu, zbc]; try rfl), _, ?_, i + 1, rfl, ?_, rfl⟩
      ·omega
      ·refine ⟨by omega, ?_⟩; grind
  try simp [zba, zbb, zbf, zbd] at hc1
  refine zb5 ?_
  refine zbq ?_
  refine AW_r rfl rfl fun K hK => ?_
  simp (disch := omega)
  repeat' first | (exfalso; omega) | (refine ⟨fun _ => ?_, fun _ => ?_⟩) | (refine ⟨by omega, ?_⟩) | (intro _)
  all_goals (refine hK _ ?_; clear hK K)
  all_goals
   refine zbo (zb7 ?_)
   simp (disch := omega)
   all_goals first | (exact zcm (by assumption) (by simp_all) hpre) | (exact zc7 (fun j x h => hpre j x (by omega))) | trace_state
theorem zfg {α : Type} (l : List α) (p : α → Bool) : decide (0 ≤ idxZ p l) = l.any p := by
 rw [Bool.eq_iff_iff]
 simp only [decide_eq_true_eq, List.any_eq_true]
 unfold idxZ
 split
 ·rename_i i h
  obtain ⟨h1, h2, -⟩ := List.findIdx?_eq_some_iff_getElem.1 h
  exact ⟨fun _ => ⟨_, List.getElem_mem h1, h2⟩, fun _ => by omega⟩
 ·rename_i h
  rw [List.findIdx?_eq_none_iff] at h
  exact ⟨fun h => by omega, fun ⟨x, hx, e⟩ => by simp [h x hx] at e⟩
theorem containsI (l : List Int) (x : Int) (hn : l.length ≤ 1048576) : PCall Try.prog 80 [.sl 1 (l.map cI), (.g (.int .i64 (x)))] (.g (.bool (l.any fun y => decide (x = y)))) := by
 refine zbv Try.func80 (by rfl) (by rfl) (by rw [Try.ntmps80]; exact Nat.le_of_ble_eq_true rfl) rfl (by decide) ?_
 rw [Try.ntmps80]
 refine AW_k [(0, _), (1, _)] ⟨rfl, rfl, trivial⟩ ?_
 refine AW_r rfl rfl fun K hK => ?_
 simp (disch := omega) [cI, zfg]
 repeat' first | (refine ⟨by omega, ?_⟩) | (intro _)
 refine hK _ ?_; clear hK K
 refine AW_r rfl rfl fun K hK => ?_
 simp (disch := omega) [cI, zfg]
 repeat' first | (exfalso; omega) | (refine zc9 (zbi zc0 (zbi zcs zbt)) (indexI _ _ (by omega)) rfl ?_; simp (disch := omega) [cI, zfg]) | (refine ⟨by omega, ?_⟩) | (intro _)
 refine hK _ ?_; clear hK K
 refine zbo (zb7 ?_)
 simp (disch := omega) [cI, zfg]
 all_goals first | omega | (simp_all; done) | (simp [List.take_of_length_le]; done) | ((try simp_all); (try simp (disch := omega) only [zbk, Int.tdiv_eq_ediv_of_nonneg, Int.tmod_eq_emod_of_nonneg, and_true, true_and]); done) | ((try simp_all); (try simp (disch := omega) only [zbk, Int.tdiv_eq_ediv_of_nonneg, Int.tmod_eq_emod_of_nonneg, and_true, true_and] at *); omega)
theorem zni (ys : List (List AV)) (l : List Int) (hy : ys = l.map cI) (x : Int) (hn : l.length ≤ 1048576) : PCall Try.prog 80 [.sl 1 ys, (.g (.int .i64 (x)))] (.g (.bool (l.any fun y => decide (x = y)))) := by subst hy; exact containsI l x hn
attribute [local simp] DtCall.cells DtCmd.cells zft
theorem isLate1 (l : List DtCall) (j k : Int) (hj : 0 ≤ j ∧ j < (l.length : Int)) (hk : 0 ≤ k ∧ k < (l.length : Int)) : GCall Try.prog 121 [(.g (.int .i64 (j))), .ptr 0 0, .ptr 1 0] [[.sl 11 (l.map DtCall.cells)], [(.g (.int .i64 (k)))]] [] (.g (.bool (lateB l k j))) [] := by
 have e := zv1 (l := l) (k := k) (j := j) (by omega) (by omega)
 refine zbv Try.func121 (by rfl) (by rfl) (by rw [Try.ntmps121]; exact Nat.le_of_ble_eq_true rfl) rfl (by decide) ?_
 rw [Try.ntmps121]
 refine AW_k [(0, _), (1, _), (2, _)] ⟨rfl, rfl, rfl, trivial⟩ ?_
 refine AW_r rfl rfl fun K hK => ?_
 simp (disch := omega)
 repeat' first | (refine ⟨by omega, ?_⟩) | (intro _)
 refine hK _ ?_; clear hK K
 refine AW_q rfl mix (by kernel_rfl) rfl fun K hK => ?_
 simp (disch := omega)
 repeat' first | (refine ⟨by omega, ?_⟩) | (intro _)
 refine hK _ ?_; clear hK K
 refine zbo (zb7 ?_)
 simp (disch := omega)
 all_goals first | (rw [e]; done) | trace_state
attribute [-simp] DtCall.cells DtCmd.cells zft
theorem zl7 {F : FuncId} {cs ds : List AV} (hcs : cs.all plain1 = true) (hds : ds.all plain1 = true) {p : Int → Bool} (xs : List Int) (hn : xs.length ≤ 1048576) (hf : ∀ x ∈ xs, GCall Try.prog F [(.g (.int .i64 (x))), .ptr 0 0, .ptr 1 0] [cs, ds] [] (.g (.bool (p x))) []) : GCall Try.prog 134 [.sl 1 (xs.map cI), .fn F [] [.ptr 0 0, .ptr 1 0]] [cs, ds] [] (.g (.int .i64 (idxZ p xs))) [] := by
 refine zbv Try.func134 (by rfl) (by rfl) (by rw [Try.ntmps134]; exact Nat.le_of_ble_eq_true rfl) rfl (by decide) ?_
 rw [Try.ntmps134]
 refine AW_k [(0, _), (1, _)] ⟨rfl, rfl, trivial⟩ ?_
 refine AW_r rfl rfl fun K hK => ?_
 simp (disch := omega)
 repeat' first | (refine zgw 0 1 (by decide) (.inr rfl) (.inr rfl) (zbw cs hcs) (zbw ds hds) (zbi zcs (zbi zjt (zbi zf0 zbt))) (hf _ (List.getElem_mem _)) rfl ?_; try simp (disch := omega)) | (refine ⟨by omega, ?_⟩) | (intro _)
 refine hK _ ?_; clear hK K
 refine zbm ?_
 refine AW_r rfl rfl fun K hK => ?_
 simp (disch := omega)
 repeat' first | (refine zgw 0 1 (by decide) (.inr rfl) (.inr rfl) (zbw cs hcs) (zbw ds hds) (zbi zcs (zbi zjt (zbi zf0 zbt))) (hf _ (List.getElem_mem _)) rfl ?_; try simp (disch := omega)) | (refine ⟨by omega, ?_⟩) | (intro _)
 refine hK _ ?_; clear hK K
 refine zbr ?_
 refine zb0 (fun mM sS => ∃ (i : Nat), mM = xs.length - i ∧ (i ≤ xs.length ∧ ∀ j x, j < i → xs[j]? = some x → p x = false) ∧ sS = { env := lkE [(0, .sl 1 (xs.map cI)), (1, .fn F [] [.ptr 0 0, .ptr 1 0]), (6, .sl 1 (xs.map cI)), (7, (.g (.int .i64 ((xs.length : Nat))))), (8, (.g (.int .i64 ((i : Nat)))))], ob := formOb [cs, ds] [] }) ?_ ?_
 ·refine ⟨_, LeS.kp [(0, .sl 1 (xs.map cI)), (1, .fn F [] [.ptr 0 0, .ptr 1 0]), (6, .sl 1 (xs.map cI)), (7, (.g (.int .i64 ((xs.length : Nat))))), (8, (.g (.int .i64 (((0) : Nat)))))] (by simp [KpE, zbe, zbu, zbc]; try rfl), _, 0, rfl, ?_, rfl⟩
  ·simp
 ·rintro mM sS ⟨i, rfl, ⟨hi, hpre⟩, rfl⟩
  refine AW_r rfl rfl fun K hK => ?_
  simp (disch := omega)
  repeat' first | (refine zgw 0 1 (by decide) (.inr rfl) (.inr rfl) (zbw cs hcs) (zbw ds hds) (zbi zcs (zbi zjt (zbi zf0 zbt))) (hf _ (List.getElem_mem _)) rfl ?_; try simp (disch := omega)) | (refine ⟨by omega, ?_⟩) | (intro _)
  refine hK _ ?_; clear hK K
  refine zbm ?_
  refine zbl rfl (fun hc3 => ?_) (fun hc3 => ?_)
  ·try simp [zba, zbb, zbf, zbd] at hc3
   all_goals
    have hg : xs[i]? = some (xs[i]) := List.getElem?_eq_getElem (by omega)
    refine zbn ?_
    refine zbq ?_
    refine zbm ?_
    refine zbr ?_
    refine AW_r rfl rfl fun K hK => ?_
    simp (disch := omega)
    repeat' first | (exfalso; omega) | (refine zgw 0 1 (by decide) (.inr rfl) (.inr rfl) (zbw cs hcs) (zbw ds hds) (zbi zcs (zbi zjt (zbi zf0 zbt))) (hf _ (List.getElem_mem _)) rfl ?_; try simp (disch := omega)) | (refine ⟨fun _ => ?_, fun _ => ?_⟩) | (refine ⟨by omega, ?_⟩) | (intro _)
    all_goals (refine hK _ ?_; clear hK K)
    all_goals
     refine AW_r rfl rfl fun K hK => ?_
     simp (disch := omega)
     repeat' first | (refine zgw 0 1 (by decide) (.inr rfl) (.inr rfl) (zbw cs hcs) (zbw ds hds) (zbi zcs (zbi zjt (zbi zf0 zbt))) (hf _ (List.getElem_mem _)) rfl ?_; try simp (disch := omega)) | (refine ⟨by omega, ?_⟩) | (intro _)
     refine hK _ ?_; clear hK K
     refine zbl rfl (fun hc4 => ?_) (fun hc4 => ?_)
     ·try simp [zba, zbb, zbf, zbd] at hc4
      all_goals
       refine AW_r rfl rfl fun K hK => ?_
       simp (disch := omega)
       repeat' first | (exfalso; omega) | (refine zgw 0 1 (by decide) (.inr rfl) (.inr rfl) (zbw cs hcs) (zbw ds hds) (zbi zcs (zbi zjt (zbi zf0 zbt))) (hf _ (List.getElem_mem _)) rfl ?_; try simp (disch := omega)) | (refine ⟨fun _ => ?_, fun _ => ?_⟩) | (refine ⟨by omega, ?_⟩) | (intro _)
       all_goals (refine hK _ ?_; clear hK K)
       all_goals
        refine zbo (zb7 ?_)
        simp (disch := omega)
        all_goals first | (exact zcm (by assumption) (by assumption) hpre) | (exact zc7 (fun j x h => hpre j x (by omega))) | trace_state
     try simp [zba, zbb, zbf, zbd] at hc4
     refine zbn ?_
     refine zbq ?_
     refine zc3 rfl rfl fun K hK => ?_
     simp (disch := omega)
     repeat' first | (exfalso; omega) | (refine zgw 0 1 (by decide) (.inr rfl) (.inr rfl) (zbw cs hcs) (zbw ds hds) (zbi zcs (zbi zjt (zbi zf0 zbt))) (hf _ (List.getElem_mem _)) rfl ?_; try simp (disch := omega)) | (refine ⟨fun _ => ?_, fun _ => ?_⟩) | (refine ⟨by omega, ?_⟩) | (intro _)
     all_goals (refine hK _ ?_; clear hK K)
     all_goals
      refine ⟨_, LeS.kp [(0, .sl 1 (xs.map cI)), (1, .fn F [] [.ptr 0 0, .ptr 1 0]), (6, .sl 1 (xs.map cI)), (7, (.g (.int .i64 ((xs.length : Nat))))), (8, (.g (.int .i64 (((i + 1) : Nat)))))] (by simp [KpE, zbe, zbu, zbc]; try rfl), _, ?_, i + 1, rfl, ?_, rfl⟩
      ·omega
      ·refine ⟨by omega, ?_⟩; grind
  try simp [zba, zbb, zbf, zbd] at hc3
  refine zb5 ?_
  refine zbq ?_
  refine AW_r rfl rfl fun K hK => ?_
  simp (disch := omega)
  repeat' first | (exfalso; omega) | (refine zgw 0 1 (by decide) (.inr rfl) (.inr rfl) (zbw cs hcs) (zbw ds hds) (zbi zcs (zbi zjt (zbi zf0 zbt))) (hf _ (List.getElem_mem _)) rfl ?_; try simp (disch := omega)) | (refine ⟨fun _ => ?_, fun _ => ?_⟩) | (refine ⟨by omega, ?_⟩) | (intro _)
  all_goals (refine hK _ ?_; clear hK K)
  all_goals
   refine zbo (zb7 ?_)
   simp (disch := omega)
   all_goals first | (exact zcm (by assumption) (by assumption) hpre) | (exact zc7 (fun j x h => hpre j x (by omega))) | trace_state
theorem zmo {F : FuncId} {cs ds : List AV} (hcs : cs.all plain1 = true) (hds : ds.all plain1 = true) {p : Int → Bool} (xs : List Int) (hn : xs.length ≤ 1048576) (hf : ∀ x ∈ xs, GCall Try.prog F [(.g (.int .i64 (x))), .ptr 0 0, .ptr 1 0] [cs, ds] [] (.g (.bool (p x))) []) : GCall Try.prog 120 [.sl 1 (xs.map cI), .fn F [] [.ptr 0 0, .ptr 1 0]] [cs, ds] [] (.g (.bool (xs.any p))) [] := by
 refine zbv Try.func120 (by rfl) (by rfl) (by rw [Try.ntmps120]; exact Nat.le_of_ble_eq_true rfl) rfl (by decide) ?_
 rw [Try.ntmps120]
 refine AW_k [(0, _), (1, _)] ⟨rfl, rfl, trivial⟩ ?_
 refine AW_r rfl rfl fun K hK => ?_
 simp (disch := omega) [zfg, zft]
 repeat' first | (refine zgw 0 1 (by decide) (.inr rfl) (.inr rfl) (zbw cs hcs) (zbw ds hds) (zbi zc0 (zbi ztl zbt)) (zl7 hcs hds xs hn hf) rfl ?_; try simp (disch := omega) [zfg, zft]) | (refine ⟨by omega, ?_⟩) | (intro _)
 refine hK _ ?_; clear hK K
 refine AW_r rfl rfl fun K hK => ?_
 simp (disch := omega) [zfg, zft]
 repeat' first | (exfalso; omega) | (refine zgw 0 1 (by decide) (.inr rfl) (.inr rfl) (zbw cs hcs) (zbw ds hds) (zbi zc0 (zbi ztl zbt)) (zl7 hcs hds xs hn hf) rfl ?_; try simp (disch := omega) [zfg, zft]) | (refine ⟨by omega, ?_⟩) | (intro _)
 refine hK _ ?_; clear hK K
 refine zbo (zb7 ?_)
 simp (disch := omega) [zfg, zft]
 all_goals first | omega | (simp_all; done) | (simp [List.take_of_length_le]; done) | ((try simp_all); (try simp (disch := omega) only [zbk, Int.tdiv_eq_ediv_of_nonneg, Int.tmod_eq_emod_of_nonneg, and_true, true_and]); done) | ((try simp_all); (try simp (disch := omega) only [zbk, Int.tdiv_eq_ediv_of_nonneg, Int.tmod_eq_emod_of_nonneg, and_true, true_and] at *); omega)
theorem isLate (l : List DtCall) (p : List Int) (k : Int) (hn : p.length ≤ 1048576) (hp : ∀ j ∈ p, 0 ≤ j ∧ j < (l.length : Int)) (hk : 0 ≤ k ∧ k < (l.length : Int)) : PCall Try.prog 81 [.sl 11 (l.map DtCall.cells), .sl 1 (p.map cI), (.g (.int .i64 (k)))] (.g (.bool (p.any (lateB l k)))) := by
 refine zbv Try.func81 (by rfl) (by rfl) (by rw [Try.ntmps81]; exact Nat.le_of_ble_eq_true rfl) rfl (by decide) ?_
 rw [Try.ntmps81]
 refine AW_k [(0, _), (1, _), (2, _)] ⟨rfl, rfl, rfl, trivial⟩ ?_
 refine AW_r rfl rfl fun K hK => ?_
 simp (disch := omega)
 repeat' first | (refine ⟨by omega, ?_⟩) | (intro _)
 refine hK _ ?_; clear hK K
 refine AW_r rfl rfl fun K hK => ?_
 simp (disch := omega)
 repeat' first | (exfalso; omega) | (refine zgw 64 96 (by decide) (.inl rfl) (.inl rfl) (zbw [.sl 11 (l.map DtCall.cells)] rfl) (zbw [(.g (.int .i64 (k)))] rfl) (zbi zc0 (zbi ztl zbt)) (zmo rfl rfl p hn (fun j hj => isLate1 l j k (hp j hj) hk)) rfl ?_; simp (disch := omega)) | (refine ⟨by omega, ?_⟩) | (intro _)
 refine hK _ ?_; clear hK K
 refine zbo (zb7 ?_)
 simp (disch := omega)
 all_goals first | rfl | trace_state
theorem isLate' (l : List DtCall) (ys : List (List AV)) (p : List Int) (hy : ys = p.map cI) (k : Int) (hn : p.length ≤ 1048576) (hp : ∀ j ∈ p, 0 ≤ j ∧ j < (l.length : Int)) (hk : 0 ≤ k ∧ k < (l.length : Int)) : PCall Try.prog 81 [.sl 11 (l.map DtCall.cells), .sl 1 ys, (.g (.int .i64 (k)))] (.g (.bool (p.any (lateB l k)))) := by subst hy; exact isLate l p k hn hp hk
end Go.Proofs.Ytmheohnbkaoipaa.Vs

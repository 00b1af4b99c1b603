import Derived.Test.YtmheohnbkaoipaaSFiV
import Derived.Test.YtmheohnbkaoipaaSCQ
open Go Go.Proofs Go.Proofs.Ytmheohnbkaoipaa.Vs
namespace Go.Proofs.Ytmheohnbkaoipaa.Vs
set_option linter.all false
set_option linter.unusedSimpArgs false
set_option linter.unusedVariables false
set_option maxRecDepth 100000
set_option maxHeartbeats 2000000
section
variable {P : Program} {q : Bool} {rest : List CO} {K : St → Prop} {st : St} {dst : Option Nat} {f : FuncId} {l l' : List AV} {r : AV}
theorem zgk (n m : Nat) (hnm : n ≠ m) {cs cs' ds ds' : List AV} (ho : st.ob n = some (.cells cs) ∨ st.ob n = some (.rocells cs)) (ho2 : st.ob m = some (.cells ds) ∨ st.ob m = some (.rocells ds)) (hm : am1s st (nuOf [n, m] []) cs cs') (hm2 : am1s st (nuOf [n, m] []) ds ds') (ha : am2s st (nuOf [n, m] []) l l') (hp : GCall P f l' [cs', ds'] [] r []) (hs : scal r = true) (hk : creg P q rest (putC st dst r []) K) : CKd P q rest K st dst f l := by
 refine ⟨r, [], ⟨[n, m], [], l', [cs', ds'], [], [], hp, rfl, rfl, rfl, by simp, by simpa using hnm, ha, ⟨⟨cs, ho, hm⟩, ⟨ds, ho2, hm2⟩, rfl⟩, rfl, ?_⟩, fun _ => rfl, hk⟩
 simp [hs, zipW]
theorem zfp {n m off : Nat} : am2 st (nuOf [n, m] []) (.ptr m off) (.ptr 1 off) := ⟨rfl, rfl⟩
theorem zsj {n m off off' : Nat} {g : FuncId} : am2 st (nuOf [n, m] []) (.fn g [] [.ptr n off, .ptr m off']) (.fn g [] [.ptr 0 off, .ptr 1 off']) := ⟨rfl, rfl, ⟨⟨rfl, rfl⟩, ⟨rfl, rfl⟩, rfl⟩⟩
theorem zjd {n m off : Nat} : am2 st (nuOf [n, m] []) (.ptr n off) (.ptr 0 off) := ⟨rfl, rfl⟩
end
theorem zfi (cs ds : List AV) (n : Nat) : formOb [cs, ds] [] n = if n = 0 then some (.rocells cs) else if n = 1 then some (.rocells ds) else none := by
 unfold formOb
 by_cases h : n = 0
 ·subst h; simp
 ·by_cases h1 : n = 1
  ·subst h1; simp
  ·rw [if_neg h, if_neg h1]
   split
   ·obtain ⟨k, rfl⟩ : ∃ k, n = k + 2 := ⟨n - 2, by omega⟩
    simp
   ·simp
attribute [local simp] cI
theorem indexI (l : List Int) (x : Int) (hn : l.length ≤ 1048576) : PCall Try.prog 119 [.sl 1 (l.map cI), (.g (.int .i64 (x)))] (.g (.int .i64 (idxZ (fun y => decide (x = y)) l))) := by
 refine zbq Try.func119 (by rfl) (by rfl) (by rw [Try.ntmps119]; exact Nat.le_of_ble_eq_true rfl) rfl (by decide) ?_
 rw [Try.ntmps119]
 refine AW_k [(0, _), (1, _)] ⟨rfl, rfl, trivial⟩ ?_
 refine AW_r rfl rfl fun K hK => ?_
 simp (disch := omega)
 repeat' first | (refine ⟨by omega, ?_⟩) | (intro _)
 refine hK _ ?_; clear hK K
 refine zbl ?_
 refine AW_r rfl rfl fun K hK => ?_
 simp (disch := omega)
 repeat' first | (refine ⟨by omega, ?_⟩) | (intro _)
 refine hK _ ?_; clear hK K
 refine zbs ?_
 refine zb3 (fun mM sS => ∃ (i : Nat), mM = l.length - i ∧ (i ≤ l.length ∧ ∀ (j : Nat) y, j < i → l[j]? = some y → decide (x = y) = false) ∧ sS = { env := lkE [(0, .sl 1 (l.map cI)), (1, (.g (.int .i64 (x)))), (6, .sl 1 (l.map cI)), (7, (.g (.int .i64 ((l.length : Nat))))), (8, (.g (.int .i64 ((i : Nat)))))], ob := formOb [] [] }) ?_ ?_
 ·refine ⟨_, LeS.kp [(0, .sl 1 (l.map cI)), (1, (.g (.int .i64 (x)))), (6, .sl 1 (l.map cI)), (7, (.g (.int .i64 ((l.length : Nat))))), (8, (.g (.int .i64 (((0) : Nat)))))] (by simp [KpE, zbf, zbt, zbd]; try rfl), _, 0, rfl, ?_, rfl⟩
  ·simp
 ·rintro mM sS ⟨i, rfl, ⟨hi, hpre⟩, rfl⟩
  refine AW_r rfl rfl fun K hK => ?_
  simp (disch := omega)
  repeat' first | (refine ⟨by omega, ?_⟩) | (intro _)
  refine hK _ ?_; clear hK K
  refine zbl ?_
  refine zbk rfl (fun hc1 => ?_) (fun hc1 => ?_)
  ·try simp [zba, zbb, zbe, zbc] at hc1
   all_goals
    have hg : l[i]? = some l[i] := List.getElem?_eq_getElem (by omega)
    refine zbm ?_
    refine zbr ?_
    refine zbl ?_
    refine zbs ?_
    refine AW_r rfl rfl fun K hK => ?_
    simp (disch := omega)
    repeat' first | (exfalso; omega) | (refine ⟨fun _ => ?_, fun _ => ?_⟩) | (refine ⟨by omega, ?_⟩) | (intro _)
    all_goals (refine hK _ ?_; clear hK K)
    all_goals
     refine AW_r rfl rfl fun K hK => ?_
     simp (disch := omega)
     repeat' first | (refine ⟨by omega, ?_⟩) | (intro _)
     refine hK _ ?_; clear hK K
     refine zbk rfl (fun hc2 => ?_) (fun hc2 => ?_)
     ·try simp [zba, zbb, zbe, zbc] at hc2
      all_goals
       refine AW_r rfl rfl fun K hK => ?_
       simp (disch := omega)
       repeat' first | (exfalso; omega) | (refine ⟨fun _ => ?_, fun _ => ?_⟩) | (refine ⟨by omega, ?_⟩) | (intro _)
       all_goals (refine hK _ ?_; clear hK K)
       all_goals
        refine zbn (zb0 ?_)
        simp (disch := omega)
        all_goals first | (exact zck (by assumption) (by simp_all) hpre) | (exact zc6 (fun j x h => hpre j x (by omega))) | trace_state
     try simp [zba, zbb, zbe, zbc] at hc2
     refine zbm ?_
     refine zbr ?_
     refine zc1 rfl rfl fun K hK => ?_
     simp (disch := omega)
     repeat' first | (exfalso; omega) | (refine ⟨fun _ => ?_, fun _ => ?_⟩) | (refine ⟨by omega, ?_⟩) | (intro _)
     all_goals (refine hK _ ?_; clear hK K)
     all_goals
      refine ⟨_, LeS.kp [(0, .sl 1 (l.map cI)), (1, (.g (.int .i64 (x)))), (6, .sl 1 (l.map cI)), (7, (.g (.int .i64 ((l.length : Nat))))), (8, (.g (.int .i64 (((i + 1) : Nat)))))] (by simp [KpE, zbf, zbt, zbd]; try rfl), _, ?_, i + 1, rfl, ?_, rfl⟩
      ·omega
      ·refine ⟨by omega, ?_⟩; grind
  try simp [zba, zbb, zbe, zbc] at hc1
  refine zb8 ?_
  refine zbr ?_
  refine AW_r rfl rfl fun K hK => ?_
  simp (disch := omega)
  repeat' first | (exfalso; omega) | (refine ⟨fun _ => ?_, fun _ => ?_⟩) | (refine ⟨by omega, ?_⟩) | (intro _)
  all_goals (refine hK _ ?_; clear hK K)
  all_goals
   refine zbn (zb0 ?_)
   simp (disch := omega)
   all_goals first | (exact zck (by assumption) (by simp_all) hpre) | (exact zc6 (fun j x h => hpre j x (by omega))) | trace_state
theorem zd6 {α : Type} (l : List α) (p : α → Bool) : decide (0 ≤ idxZ p l) = l.any p := by
 rw [Bool.eq_iff_iff]
 simp only [decide_eq_true_eq, List.any_eq_true]
 unfold idxZ
 split
 ·rename_i i h
  obtain ⟨h1, h2, -⟩ := List.findIdx?_eq_some_iff_getElem.1 h
  exact ⟨fun _ => ⟨_, List.getElem_mem h1, h2⟩, fun _ => by omega⟩
 ·rename_i h
  rw [List.findIdx?_eq_none_iff] at h
  exact ⟨fun h => by omega, fun ⟨x, hx, e⟩ => by simp [h x hx] at e⟩
theorem zzz (l : List Int) (x : Int) (hn : l.length ≤ 1048576) : PCall Try.prog 80 [.sl 1 (l.map cI), (.g (.int .i64 (x)))] (.g (.bool (l.any fun y => decide (x = y)))) := by
 refine zbq Try.func80 (by rfl) (by rfl) (by rw [Try.ntmps80]; exact Nat.le_of_ble_eq_true rfl) rfl (by decide) ?_
 rw [Try.ntmps80]
 refine AW_k [(0, _), (1, _)] ⟨rfl, rfl, trivial⟩ ?_
 refine AW_r rfl rfl fun K hK => ?_
 simp (disch := omega) [cI, zd6]
 repeat' first | (refine ⟨by omega, ?_⟩) | (intro _)
 refine hK _ ?_; clear hK K
 refine AW_r rfl rfl fun K hK => ?_
 simp (disch := omega) [cI, zd6]
 repeat' first | (exfalso; omega) | (refine zcx (zbh zcs (zbh zct zbp)) (indexI _ _ (by omega)) rfl ?_; simp (disch := omega) [cI, zd6]) | (refine ⟨by omega, ?_⟩) | (intro _)
 refine hK _ ?_; clear hK K
 refine zbn (zb0 ?_)
 simp (disch := omega) [cI, zd6]
 all_goals first | omega | (simp_all; done) | (simp [List.take_of_length_le]; done) | ((try simp_all); (try simp (disch := omega) only [zbo, Int.tdiv_eq_ediv_of_nonneg, Int.tmod_eq_emod_of_nonneg, and_true, true_and]); done) | ((try simp_all); (try simp (disch := omega) only [zbo, Int.tdiv_eq_ediv_of_nonneg, Int.tmod_eq_emod_of_nonneg, and_true, true_and] at *); omega)
theorem zmq (ys : List (List AV)) (l : List Int) (hy : ys = l.map cI) (x : Int) (hn : l.length ≤ 1048576) : PCall Try.prog 80 [.sl 1 ys, (.g (.int .i64 (x)))] (.g (.bool (l.any fun y => decide (x = y)))) := by subst hy; exact zzz l x hn
attribute [local simp] DtCall.cells DtCmd.cells zfi
theorem isLate1 (l : List DtCall) (j k : Int) (hj : 0 ≤ j ∧ j < (l.length : Int)) (hk : 0 ≤ k ∧ k < (l.length : Int)) : GCall Try.prog 121 [(.g (.int .i64 (j))), .ptr 0 0, .ptr 1 0] [[.sl 11 (l.map DtCall.cells)], [(.g (.int .i64 (k)))]] [] (.g (.bool (lateB l k j))) [] := by
 have e := ztu (l := l) (k := k) (j := j) (by omega) (by omega)
 refine zbq Try.func121 (by rfl) (by rfl) (by rw [Try.ntmps121]; exact Nat.le_of_ble_eq_true rfl) rfl (by decide) ?_
 rw [Try.ntmps121]
 refine AW_k [(0, _), (1, _), (2, _)] ⟨rfl, rfl, rfl, trivial⟩ ?_
 refine AW_r rfl rfl fun K hK => ?_
 simp (disch := omega)
 repeat' first | (refine ⟨by omega, ?_⟩) | (intro _)
 refine hK _ ?_; clear hK K
 refine AW_q rfl mix (by kernel_rfl) rfl fun K hK => ?_
 simp (disch := omega)
 repeat' first | (refine ⟨by omega, ?_⟩) | (intro _)
 refine hK _ ?_; clear hK K
 refine zbn (zb0 ?_)
 simp (disch := omega)
 all_goals first | (rw [e]; done) | trace_state
attribute [-simp] DtCall.cells DtCmd.cells zfi
theorem zlp {F : FuncId} {cs ds : List AV} (hcs : cs.all plain1 = true) (hds : ds.all plain1 = true) {p : Int → Bool} (xs : List Int) (hn : xs.length ≤ 1048576) (hf : ∀ x ∈ xs, GCall Try.prog F [(.g (.int .i64 (x))), .ptr 0 0, .ptr 1 0] [cs, ds] [] (.g (.bool (p x))) []) : GCall Try.prog 134 [.sl 1 (xs.map cI), .fn F [] [.ptr 0 0, .ptr 1 0]] [cs, ds] [] (.g (.int .i64 (idxZ p xs))) [] := by
 refine zbq Try.func134 (by rfl) (by rfl) (by rw [Try.ntmps134]; exact Nat.le_of_ble_eq_true rfl) rfl (by decide) ?_
 rw [Try.ntmps134]
 refine AW_k [(0, _), (1, _)] ⟨rfl, rfl, trivial⟩ ?_
 refine AW_r rfl rfl fun K hK => ?_
 simp (disch := omega)
 repeat' first | (refine zgk 0 1 (by decide) (.inr rfl) (.inr rfl) (zbw cs hcs) (zbw ds hds) (zbh zct (zbh zjd (zbh zfp zbp))) (hf _ (List.getElem_mem _)) rfl ?_; try simp (disch := omega)) | (refine ⟨by omega, ?_⟩) | (intro _)
 refine hK _ ?_; clear hK K
 refine zbl ?_
 refine AW_r rfl rfl fun K hK => ?_
 simp (disch := omega)
 repeat' first | (refine zgk 0 1 (by decide) (.inr rfl) (.inr rfl) (zbw cs hcs) (zbw ds hds) (zbh zct (zbh zjd (zbh zfp zbp))) (hf _ (List.getElem_mem _)) rfl ?_; try simp (disch := omega)) | (refine ⟨by omega, ?_⟩) | (intro _)
 refine hK _ ?_; clear hK K
 refine zbs ?_
 refine zb3 (fun mM sS => ∃ (i : Nat), mM = xs.length - i ∧ (i ≤ xs.length ∧ ∀ j x, j < i → xs[j]? = some x → p x = false) ∧ sS = { env := lkE [(0, .sl 1 (xs.map cI)), (1, .fn F [] [.ptr 0 0, .ptr 1 0]), (6, .sl 1 (xs.map cI)), (7, (.g (.int .i64 ((xs.length : Nat))))), (8, (.g (.int .i64 ((i : Nat)))))], ob := formOb [cs, ds] [] }) ?_ ?_
 ·refine ⟨_, LeS.kp [(0, .sl 1 (xs.map cI)), (1, .fn F [] [.ptr 0 0, .ptr 1 0]), (6, .sl 1 (xs.map cI)), (7, (.g (.int .i64 ((xs.length : Nat))))), (8, (.g (.int .i64 (((0) : Nat)))))] (by simp [KpE, zbf, zbt, zbd]; try rfl), _, 0, rfl, ?_, rfl⟩
  ·simp
 ·rintro mM sS ⟨i, rfl, ⟨hi, hpre⟩, rfl⟩
  refine AW_r rfl rfl fun K hK => ?_
  simp (disch := omega)
  repeat' first | (refine zgk 0 1 (by decide) (.inr rfl) (.inr rfl) (zbw cs hcs) (zbw ds hds) (zbh zct (zbh zjd (zbh zfp zbp))) (hf _ (List.getElem_mem _)) rfl ?_; try simp (disch := omega)) | (refine ⟨by omega, ?_⟩) | (intro _)
  refine hK _ ?_; clear hK K
  refine zbl ?_
  refine zbk rfl (fun hc3 => ?_) (fun hc3 => ?_)
  ·try simp [zba, zbb, zbe, zbc] at hc3
   all_goals
    have hg : xs[i]? = some (xs[i]) := List.getElem?_eq_getElem (by omega)
    refine zbm ?_
    refine zbr ?_
    refine zbl ?_
    refine zbs ?_
    refine AW_r rfl rfl fun K hK => ?_
    simp (disch := omega)
    repeat' first | (exfalso; omega) | (refine zgk 0 1 (by decide) (.inr rfl) (.inr rfl) (zbw cs hcs) (zbw ds hds) (zbh zct (zbh zjd (zbh zfp zbp))) (hf _ (List.getElem_mem _)) rfl ?_; try simp (disch := omega)) | (refine ⟨fun _ => ?_, fun _ => ?_⟩) | (refine ⟨by omega, ?_⟩) | (intro _)
    all_goals (refine hK _ ?_; clear hK K)
    all_goals
     refine AW_r rfl rfl fun K hK => ?_
     simp (disch := omega)
     repeat' first | (refine zgk 0 1 (by decide) (.inr rfl) (.inr rfl) (zbw cs hcs) (zbw ds hds) (zbh zct (zbh zjd (zbh zfp zbp))) (hf _ (List.getElem_mem _)) rfl ?_; try simp (disch := omega)) | (refine ⟨by omega, ?_⟩) | (intro _)
     refine hK _ ?_; clear hK K
     refine zbk rfl (fun hc4 => ?_) (fun hc4 => ?_)
     ·try simp [zba, zbb, zbe, zbc] at hc4
      all_goals
       refine AW_r rfl rfl fun K hK => ?_
       simp (disch := omega)
       repeat' first | (exfalso; omega) | (refine zgk 0 1 (by decide) (.inr rfl) (.inr rfl) (zbw cs hcs) (zbw ds hds) (zbh zct (zbh zjd (zbh zfp zbp))) (hf _ (List.getElem_mem _)) rfl ?_; try simp (disch := omega)) | (refine ⟨fun _ => ?_, fun _ => ?_⟩) | (refine ⟨by omega, ?_⟩) | (intro _)
       all_goals (refine hK _ ?_; clear hK K)
       all_goals
        refine zbn (zb0 ?_)
        simp (disch := omega)
        all_goals first | (exact zck (by assumption) (by assumption) hpre) | (exact zc6 (fun j x h => hpre j x (by omega))) | trace_state
     try simp [zba, zbb, zbe, zbc] at hc4
     refine zbm ?_
     refine zbr ?_
     refine zc1 rfl rfl fun K hK => ?_
     simp (disch := omega)
     repeat' first | (exfalso; omega) | (refine zgk 0 1 (by decide) (.inr rfl) (.inr rfl) (zbw cs hcs) (zbw ds hds) (zbh zct (zbh zjd (zbh zfp zbp))) (hf _ (List.getElem_mem _)) rfl ?_; try simp (disch := omega)) | (refine ⟨fun _ => ?_, fun _ => ?_⟩) | (refine ⟨by omega, ?_⟩) | (intro _)
     all_goals (refine hK _ ?_; clear hK K)
     all_goals
      refine ⟨_, LeS.kp [(0, .sl 1 (xs.map cI)), (1, .fn F [] [.ptr 0 0, .ptr 1 0]), (6, .sl 1 (xs.map cI)), (7, (.g (.int .i64 ((xs.length : Nat))))), (8, (.g (.int .i64 (((i + 1) : Nat)))))] (by simp [KpE, zbf, zbt, zbd]; try rfl), _, ?_, i + 1, rfl, ?_, rfl⟩
      ·omega
      ·refine ⟨by omega, ?_⟩; grind
  try simp [zba, zbb, zbe, zbc] at hc3
  refine zb8 ?_
  refine zbr ?_
  refine AW_r rfl rfl fun K hK => ?_
  simp (disch := omega)
  repeat' first | (exfalso; omega) | (refine zgk 0 1 (by decide) (.inr rfl) (.inr rfl) (zbw cs hcs) (zbw ds hds) (zbh zct (zbh zjd (zbh zfp zbp))) (hf _ (List.getElem_mem _)) rfl ?_; try simp (disch := omega)) | (refine ⟨fun _ => ?_, fun _ => ?_⟩) | (refine ⟨by omega, ?_⟩) | (intro _)
  all_goals (refine hK _ ?_; clear hK K)
  all_goals
   refine zbn (zb0 ?_)
   simp (disch := omega)
   all_goals first | (exact zck (by assumption) (by assumption) hpre) | (exact zc6 (fun j x h => hpre j x (by omega))) | trace_state
theorem zl3 {F : FuncId} {cs ds : List AV} (hcs : cs.all plain1 = true) (hds : ds.all plain1 = true) {p : Int → Bool} (xs : List Int) (hn : xs.length ≤ 1048576) (hf : ∀ x ∈ xs, GCall Try.prog F [(.g (.int .i64 (x))), .ptr 0 0, .ptr 1 0] [cs, ds] [] (.g (.bool (p x))) []) : GCall Try.prog 120 [.sl 1 (xs.map cI), .fn F [] [.ptr 0 0, .ptr 1 0]] [cs, ds] [] (.g (.bool (xs.any p))) [] := by
 refine zbq Try.func120 (by rfl) (by rfl) (by rw [Try.ntmps120]; exact Nat.le_of_ble_eq_true rfl) rfl (by decide) ?_
 rw [Try.ntmps120]
 refine AW_k [(0, _), (1, _)] ⟨rfl, rfl, trivial⟩ ?_
 refine AW_r rfl rfl fun K hK => ?_
 simp (disch := omega) [zd6, zfi]
 repeat' first | (refine zgk 0 1 (by decide) (.inr rfl) (.inr rfl) (zbw cs hcs) (zbw ds hds) (zbh zcs (zbh zsj zbp)) (zlp hcs hds xs hn hf) rfl ?_; try simp (disch := omega) [zd6, zfi]) | (refine ⟨by omega, ?_⟩) | (intro _)
 refine hK _ ?_; clear hK K
 refine AW_r rfl rfl fun K hK => ?_
 simp (disch := omega) [zd6, zfi]
 repeat' first | (exfalso; omega) | (refine zgk 0 1 (by decide) (.inr rfl) (.inr rfl) (zbw cs hcs) (zbw ds hds) (zbh zcs (zbh zsj zbp)) (zlp hcs hds xs hn hf) rfl ?_; try simp (disch := omega) [zd6, zfi]) | (refine ⟨by omega, ?_⟩) | (intro _)
 refine hK _ ?_; clear hK K
 refine zbn (zb0 ?_)
 simp (disch := omega) [zd6, zfi]
 all_goals first | omega | (simp_all; done) | (simp [List.take_of_length_le]; done) | ((try simp_all); (try simp (disch := omega) only [zbo, Int.tdiv_eq_ediv_of_nonneg, Int.tmod_eq_emod_of_nonneg, and_true, true_and]); done) | ((try simp_all); (try simp (disch := omega) only [zbo, Int.tdiv_eq_ediv_of_nonneg, Int.tmod_eq_emod_of_nonneg, and_true, true_and] at *); omega)
theorem isLate (l : List DtCall) (p : List Int) (k : Int) (hn : p.length ≤ 1048576) (hp : ∀ j ∈ p, 0 ≤ j ∧ j < (l.length : Int)) (hk : 0 ≤ k ∧ k < (l.length : Int)) : PCall Try.prog 81 [.sl 11 (l.map DtCall.cells), .sl 1 (p.map cI), (.g (.int .i64 (k)))] (.g (.bool (p.any (lateB l k)))) := by
 refine zbq Try.func81 (by rfl) (by rfl) (by rw [Try.ntmps81]; exact Nat.le_of_ble_eq_true rfl) rfl (by decide) ?_
 rw [Try.ntmps81]
 refine AW_k [(0, _), (1, _), (2, _)] ⟨rfl, rfl, rfl, trivial⟩ ?_
 refine AW_r rfl rfl fun K hK => ?_
 simp (disch := omega)
 repeat' first | (refine ⟨by omega, ?_⟩) | (intro _)
 refine hK _ ?_; clear hK K
 refine AW_r rfl rfl fun K hK => ?_
 simp (disch := omega)
 repeat' first | (exfalso; omega) | (refine zgk 64 96 (by decide) (.inl rfl) (.inl rfl) (zbw [.sl 11 (l.map DtCall.cells)] rfl) (zbw [(.g (.int .i64 (k)))] rfl) (zbh zcs (zbh zsj zbp)) (zl3 rfl rfl p hn (fun j hj => isLate1 l j k (hp j hj) hk)) rfl ?_; simp (disch := omega)) | (refine ⟨by omega, ?_⟩) | (intro _)
 refine hK _ ?_; clear hK K
 refine zbn (zb0 ?_)
 simp (disch := omega)
 all_goals first | rfl | trace_state
theorem zz0 (l : List DtCall) (ys : List (List AV)) (p : List Int) (hy : ys = p.map cI) (k : Int) (hn : p.length ≤ 1048576) (hp : ∀ j ∈ p, 0 ≤ j ∧ j < (l.length : Int)) (hk : 0 ≤ k ∧ k < (l.length : Int)) : PCall Try.prog 81 [.sl 11 (l.map DtCall.cells), .sl 1 ys, (.g (.int .i64 (k)))] (.g (.bool (p.any (lateB l k)))) := by subst hy; exact isLate l p k hn hp hk
end Go.Proofs.Ytmheohnbkaoipaa.Vs

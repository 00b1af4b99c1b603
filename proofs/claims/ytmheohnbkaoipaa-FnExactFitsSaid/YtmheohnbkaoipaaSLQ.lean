import Derived.Test.YtmheohnbkaoipaaSToldQ
open Go Go.Proofs Go.Proofs.Ytmheohnbkaoipaa.Vs
namespace Go.Proofs.Ytmheohnbkaoipaa.Vs
set_option linter.all false
set_option linter.unusedSimpArgs false
set_option linter.unusedVariables false
set_option maxRecDepth 100000
def namL (l : List DtCSet) : List (List UInt8) := l.map fun s => s.fName
theorem zti {α β : Type} {zs : List (α × β)} {l : List α} (hz : zs.map (·.1) = l) (i : Nat) (h : i < zs.length) (h2 : i < l.length) : zs[i].1 = l[i] := by subst hz; simp
theorem zd5 (l : List DtCSet) : (namL l).length = l.length := by simp [namL]
attribute [local simp] DtCSet.cells zbu zdl cS and_assoc zzi zd5
attribute [-simp] aAppC aAppZ
theorem listX (l : List DtCSet) (hl : l.length ≤ 1048576) (hb : (spc (namL l)).length ≤ 1073741824) : XCall Try.prog 59 [.ptr 8 0] [.cells [.arr 9 0 l.length], .own 2 (l.map DtCSet.cells)] (.s (spc (namL l))) [.cells [.arr 9 0 l.length], .own 2 (l.map DtCSet.cells)] [] := by
 have hll := zd5 l
 refine zb5 Try.func59 (by rfl) (by rfl) (by rw [Try.ntmps59]; exact Nat.le_of_ble_eq_true rfl) rfl (by simp) rfl rfl ?_
 rw [Try.ntmps59]
 refine AW_x2 (.cells [.arr 9 0 l.length]) (.own 2 (l.map DtCSet.cells)) (by simp [cvO] <;> assumption) (by simp [cvO] <;> assumption) ?_
 refine AW_k [(0, _)] ⟨rfl, trivial⟩ ?_
 refine zdr (us := l) 9 901 (by simp [zbf, zbd, zbi]) (by simp [zbf, zbd, zbi]) fun zs hz hone => ?_
 have hzl : zs.length = l.length := by rw [← hz]; simp
 refine AW_x rfl rfl fun K hK => ?_
 simp (disch := omega)
 repeat' first | (refine ⟨by omega, ?_⟩) | (intro _)
 refine hK _ ?_; clear hK K
 refine AW_x rfl rfl fun K hK => ?_
 simp (disch := omega)
 repeat' first | (refine ⟨by omega, ?_⟩) | (simp (disch := omega)) | (intro _)
 refine hK _ ?_; clear hK K
 refine zbl ?_
 refine AW_x rfl rfl fun K hK => ?_
 simp (disch := omega)
 repeat' first | (refine ⟨by omega, ?_⟩) | (simp (disch := omega)) | (intro _)
 refine hK _ ?_; clear hK K
 refine zbs ?_
 refine zb3 (fun mM sS => ∃ (i : Nat), mM = zs.length - i ∧ (i ≤ zs.length) ∧ sS = { env := lkE [(0, .ptr 8 0), (3, .arr 904 0 i), (10, .arr 9 0 l.length), (11, (.g (.int .i64 ((l.length : Nat))))), (12, (.g (.int .i64 ((i : Nat)))))], ob := lk [(8, .cells [.arr 9 0 l.length]), (9, .win 2 (zs.map setV)), (901, .park (zs.flatMap setP)), (904, .win 1 (((namL l).take i).map cS))] }) ?_ ?_
 ·refine ⟨_, LeS.kw [(8, 8), (9, 9), (901, 901), (904, 112)] [(0, .ptr 8 0), (3, .arr 904 0 (0)), (10, .arr 9 0 l.length), (11, (.g (.int .i64 ((l.length : Nat))))), (12, (.g (.int .i64 (((0) : Nat)))))] [(8, .cells [.arr 9 0 l.length]), (9, .win 2 (zs.map setV)), (901, .park (zs.flatMap setP)), (904, .win 1 (((namL l).take (0)).map cS))] (by simp [KpR, renV2, renV, zbf, zbt, zbd, zbi, zci, zdl]; try (simp; done)) (by simp [KpOW, wnO, renO, plO, cvO, renV, pl1, zbd, zbi, zbf, zci, zdl]; first | exact .inl ⟨by rw [htk, List.take_take, Nat.min_self]; rfl, zcm (zdy cS (fun _ => rfl) _) _⟩ | trace_state) (by rfl) (by simp) (by simp) (by rfl) (by simp [formsX, List.range_succ, zbd, zbi]), _, 0, rfl, ?_, rfl⟩
  ·simp
 ·rintro mM sS ⟨i, rfl, hi, rfl⟩
  refine AW_x rfl rfl fun K hK => ?_
  simp (disch := omega)
  repeat' first | (refine ⟨by omega, ?_⟩) | (intro _)
  refine hK _ ?_; clear hK K
  refine zbl ?_
  refine zbk rfl (fun hc1 => ?_) (fun hc1 => ?_)
  ·try simp [zba, zbb, zbe, zbc] at hc1
   all_goals
    have hyi := zti hz i (by omega) (by omega)
    have hv1 : (zs[i].2 1).oneCell' = true := hone _ (List.getElem_mem _) 1
    simp only [Value.oneCell'] at hv1
    have htk := zvv cS (namL l) i (by rw [zd5]; omega)
    have htx : (namL l)[i]'(by rw [zd5]; omega) = zs[i].1.fName := by rw [hyi]; simp [namL]
    rw [htx] at htk
    refine zbm ?_
    refine zbr ?_
    refine zbl ?_
    refine zbs ?_
    refine AW_x rfl rfl fun K hK => ?_
    simp (disch := omega) [hv1]
    repeat' first | (exfalso; omega) | (refine ⟨fun _ => ?_, fun _ => ?_⟩) | (refine ⟨by omega, ?_⟩) | (simp (disch := omega) [hv1]) | (intro _)
    all_goals (refine hK _ ?_; clear hK K)
    all_goals
     refine zcw rfl rfl fun K hK => ?_
     simp (disch := omega) [hv1]
     repeat' first | (refine ⟨by omega, ?_⟩) | (simp (disch := omega) [hv1]) | (intro _)
     refine hK _ ?_; clear hK K
     refine zbr ?_
     refine zcw rfl rfl fun K hK => ?_
     simp (disch := omega) [hv1]
     repeat' first | (refine ⟨by omega, ?_⟩) | (intro _)
     refine hK _ ?_; clear hK K
     refine ⟨_, LeS.kw [(8, 8), (9, 9), (901, 901), (904, 336)] [(0, .ptr 8 0), (3, .arr 904 0 (i + 1)), (10, .arr 9 0 l.length), (11, (.g (.int .i64 ((l.length : Nat))))), (12, (.g (.int .i64 (((i + 1) : Nat)))))] [(8, .cells [.arr 9 0 l.length]), (9, .win 2 (zs.map setV)), (901, .park (zs.flatMap setP)), (904, .win 1 (((namL l).take (i + 1)).map cS))] (by simp [KpR, renV2, renV, zbf, zbt, zbd, zbi, zci, zdl]; try (first | omega | rfl)) (by simp [KpOW, wnO, renO, plO, cvO, renV, pl1, zbd, zbi, zbf, zci, zdl]; first | exact .inl ⟨by rw [htk, List.take_take, Nat.min_self]; rfl, zcm (zdy cS (fun _ => rfl) _) _⟩ | trace_state) (by rfl) (by simp) (by simp) (by rfl) (by simp [formsX, List.range_succ, zbd, zbi]), _, ?_, i + 1, rfl, ?_, rfl⟩
     ·omega
     ·omega
  try simp [zba, zbb, zbe, zbc] at hc1
  have hi3 : i = l.length := by omega
  refine zb8 ?_
  refine zbr ?_
  refine zd4 (zg7 (ks := zs) (zs := zs) 9 901 (by simp [zbf, zbd, zbi]) (by simp [zbf, zbd, zbi]) (List.Sublist.refl _)) ?_
  have hsn : (zs.map fun z => DtCSet.cells z.1) = l.map DtCSet.cells := by rw [← hz, List.map_map]; rfl
  rw [hsn]
  have htf : List.take i (List.map cS (namL l)) = List.map cS (namL l) := List.take_of_length_le (by rw [List.length_map, zd5]; omega)
  simp only [htf]
  subst hi3
  refine AW_x rfl rfl fun K hK => ?_
  simp (disch := omega)
  repeat' first | (exfalso; omega) | (refine zfs (zbh zcs zbp) (znq (namL l) (by rw [zd5]; omega) hb) rfl ?_; simp (disch := omega)) | (refine zft (znq (namL l) (by rw [zd5]; omega) hb) (by rfl) ?_ ?_; (focus (simp (disch := omega) [zbu]; done)); simp (disch := omega)) | (refine ⟨fun _ => ?_, fun _ => ?_⟩) | (refine ⟨by omega, ?_⟩) | (simp (disch := omega)) | (intro _)
  all_goals (refine hK _ ?_; clear hK K)
  all_goals
   refine zbn (zcf [] [] (by simp [List.range_succ, zbd, zbi, zbf]) (by simp) ?_)
   simp (disch := omega)
   all_goals first | rfl | exact ⟨rfl, rfl⟩ | exact ⟨⟨rfl, rfl⟩, rfl⟩ | trace_state
end Go.Proofs.Ytmheohnbkaoipaa.Vs

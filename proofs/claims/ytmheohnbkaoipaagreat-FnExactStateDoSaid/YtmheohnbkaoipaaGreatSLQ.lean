import Derived.Test.YtmheohnbkaoipaaGreatSToldQ
open Go Go.Proofs Go.Proofs.YtmheohnbkaoipaaGreat.Vs
namespace Go.Proofs.YtmheohnbkaoipaaGreat.Vs
set_option linter.all false
set_option linter.unusedSimpArgs false
set_option linter.unusedVariables false
set_option maxRecDepth 100000
def namL (l : List DtCSet) : List (List UInt8) := l.map fun s => s.fName
theorem zvj {α β : Type} {zs : List (α × β)} {l : List α} (hz : zs.map (·.1) = l) (i : Nat) (h : i < zs.length) (h2 : i < l.length) : zs[i].1 = l[i] := by subst hz; simp
theorem zfl (l : List DtCSet) : (namL l).length = l.length := by simp [namL]
attribute [local simp] DtCSet.cells zbp zd0 cS and_assoc scR_cS zfl
attribute [-simp] aAppC aAppZ
theorem listX (l : List DtCSet) (hl : l.length ≤ 1048576) (hb : (spc (namL l)).length ≤ 1073741824) : XCall Tryz.prog 60 [.ptr 8 0] [.cells [.arr 9 0 l.length], .own 2 (l.map DtCSet.cells)] (.s (spc (namL l))) [.cells [.arr 9 0 l.length], .own 2 (l.map DtCSet.cells)] [] := by
 have hll := zfl l
 refine zbx Tryz.func60 (by rfl) (by rfl) (by rw [Tryz.ntmps60]; exact Nat.le_of_ble_eq_true rfl) rfl (by simp) rfl rfl ?_
 rw [Tryz.ntmps60]
 refine zzn (.cells [.arr 9 0 l.length]) (.own 2 (l.map DtCSet.cells)) (by simp [cvO] <;> assumption) (by simp [cvO] <;> assumption) ?_
 refine AW_k [(0, _)] ⟨rfl, trivial⟩ ?_
 refine zd9 (us := l) 9 901 (by simp [zbe, zbc, zbj]) (by simp [zbe, zbc, zbj]) fun zs hz hone => ?_
 have hzl : zs.length = l.length := by rw [← hz]; simp
 refine AW_x rfl rfl fun K hK => ?_
 simp (disch := omega)
 repeat' first | (refine ⟨by omega, ?_⟩) | (intro _)
 refine hK _ ?_; clear hK K
 refine AW_x rfl rfl fun K hK => ?_
 simp (disch := omega)
 repeat' first | (refine ⟨by omega, ?_⟩) | (simp (disch := omega)) | (intro _)
 refine hK _ ?_; clear hK K
 refine zbm ?_
 refine AW_x rfl rfl fun K hK => ?_
 simp (disch := omega)
 repeat' first | (refine ⟨by omega, ?_⟩) | (simp (disch := omega)) | (intro _)
 refine hK _ ?_; clear hK K
 refine zbt ?_
 refine zb5 (fun mM sS => ∃ (i : Nat), mM = zs.length - i ∧ (i ≤ zs.length) ∧ sS = { env := lkE [(0, .ptr 8 0), (3, .arr 904 0 i), (10, .arr 9 0 l.length), (11, (.g (.int .i64 ((l.length : Nat))))), (12, (.g (.int .i64 ((i : Nat)))))], ob := lk [(8, .cells [.arr 9 0 l.length]), (9, .win 2 (zs.map setV)), (901, .park (zs.flatMap setP)), (904, .win 1 (((namL l).take i).map cS))] }) ?_ ?_
 ·refine ⟨_, LeS.kw [(8, 8), (9, 9), (901, 901), (904, 112)] [(0, .ptr 8 0), (3, .arr 904 0 (0)), (10, .arr 9 0 l.length), (11, (.g (.int .i64 ((l.length : Nat))))), (12, (.g (.int .i64 (((0) : Nat)))))] [(8, .cells [.arr 9 0 l.length]), (9, .win 2 (zs.map setV)), (901, .park (zs.flatMap setP)), (904, .win 1 (((namL l).take (0)).map cS))] (by simp [KpR, renV2, renV, zbe, zbv, zbc, zbj, zcm, zd0]; try (simp; done)) (by simp [KpOW, wnO, renO, plO, cvO, renV, pl1, zbc, zbj, zbe, zcm, zd0]; first | exact .inl ⟨by rw [htk, List.take_take, Nat.min_self]; rfl, zcs (zfp cS (fun _ => rfl) _) _⟩ | trace_state) (by rfl) (by simp) (by simp) (by rfl) (by simp [formsX, List.range_succ, zbc, zbj]), _, 0, rfl, ?_, rfl⟩
  ·simp
 ·rintro mM sS ⟨i, rfl, hi, rfl⟩
  refine AW_x rfl rfl fun K hK => ?_
  simp (disch := omega)
  repeat' first | (refine ⟨by omega, ?_⟩) | (intro _)
  refine hK _ ?_; clear hK K
  refine zbm ?_
  refine zbl rfl (fun hc1 => ?_) (fun hc1 => ?_)
  ·try simp [zba, zbb, zbf, zbd] at hc1
   all_goals
    have hyi := zvj hz i (by omega) (by omega)
    have hv1 : (zs[i].2 1).oneCell' = true := hone _ (List.getElem_mem _) 1
    simp only [Value.oneCell'] at hv1
    have htk := zwx cS (namL l) i (by rw [zfl]; omega)
    have htx : (namL l)[i]'(by rw [zfl]; omega) = zs[i].1.fName := by rw [hyi]; simp [namL]
    rw [htx] at htk
    refine zbn ?_
    refine zbq ?_
    refine zbm ?_
    refine zbt ?_
    refine AW_x rfl rfl fun K hK => ?_
    simp (disch := omega) [hv1]
    repeat' first | (exfalso; omega) | (refine ⟨fun _ => ?_, fun _ => ?_⟩) | (refine ⟨by omega, ?_⟩) | (simp (disch := omega) [hv1]) | (intro _)
    all_goals (refine hK _ ?_; clear hK K)
    all_goals
     refine zcr rfl rfl fun K hK => ?_
     simp (disch := omega) [hv1]
     repeat' first | (refine ⟨by omega, ?_⟩) | (simp (disch := omega) [hv1]) | (intro _)
     refine hK _ ?_; clear hK K
     refine zbq ?_
     refine zcr rfl rfl fun K hK => ?_
     simp (disch := omega) [hv1]
     repeat' first | (refine ⟨by omega, ?_⟩) | (intro _)
     refine hK _ ?_; clear hK K
     refine ⟨_, LeS.kw [(8, 8), (9, 9), (901, 901), (904, 336)] [(0, .ptr 8 0), (3, .arr 904 0 (i + 1)), (10, .arr 9 0 l.length), (11, (.g (.int .i64 ((l.length : Nat))))), (12, (.g (.int .i64 (((i + 1) : Nat)))))] [(8, .cells [.arr 9 0 l.length]), (9, .win 2 (zs.map setV)), (901, .park (zs.flatMap setP)), (904, .win 1 (((namL l).take (i + 1)).map cS))] (by simp [KpR, renV2, renV, zbe, zbv, zbc, zbj, zcm, zd0]; try (first | omega | rfl)) (by simp [KpOW, wnO, renO, plO, cvO, renV, pl1, zbc, zbj, zbe, zcm, zd0]; first | exact .inl ⟨by rw [htk, List.take_take, Nat.min_self]; rfl, zcs (zfp cS (fun _ => rfl) _) _⟩ | trace_state) (by rfl) (by simp) (by simp) (by rfl) (by simp [formsX, List.range_succ, zbc, zbj]), _, ?_, i + 1, rfl, ?_, rfl⟩
     ·omega
     ·omega
  try simp [zba, zbb, zbf, zbd] at hc1
  have hi3 : i = l.length := by omega
  refine zb7 ?_
  refine zbq ?_
  refine zfk (zhn (ks := zs) (zs := zs) 9 901 (by simp [zbe, zbc, zbj]) (by simp [zbe, zbc, zbj]) (List.Sublist.refl _)) ?_
  have hsn : (zs.map fun z => DtCSet.cells z.1) = l.map DtCSet.cells := by rw [← hz, List.map_map]; rfl
  rw [hsn]
  have htf : List.take i (List.map cS (namL l)) = List.map cS (namL l) := List.take_of_length_le (by rw [List.length_map, zfl]; omega)
  simp only [htf]
  subst hi3
  refine AW_x rfl rfl fun K hK => ?_
  simp (disch := omega)
  repeat' first | (exfalso; omega) | (refine zdq (zbh zdd zbs) (zph (namL l) (by rw [zfl]; omega) hb) rfl ?_; simp (disch := omega)) | (refine zdr (zph (namL l) (by rw [zfl]; omega) hb) (by rfl) ?_ ?_; (focus (simp (disch := omega) [zbp]; done)); simp (disch := omega)) | (refine ⟨fun _ => ?_, fun _ => ?_⟩) | (refine ⟨by omega, ?_⟩) | (simp (disch := omega)) | (intro _)
  all_goals (refine hK _ ?_; clear hK K)
  all_goals
   refine zbo (zcc [] [] (by simp [List.range_succ, zbc, zbj, zbe]) (by simp) ?_)
   simp (disch := omega)
   all_goals first | rfl | exact ⟨rfl, rfl⟩ | exact ⟨⟨rfl, rfl⟩, rfl⟩ | trace_state
end Go.Proofs.YtmheohnbkaoipaaGreat.Vs

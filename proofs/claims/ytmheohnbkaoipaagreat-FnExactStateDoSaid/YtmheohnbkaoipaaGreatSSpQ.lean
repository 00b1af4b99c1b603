import Derived.Test.YtmheohnbkaoipaaGreatSDvQ
open Go Go.Proofs Go.Proofs.YtmheohnbkaoipaaGreat.Vs
namespace Go.Proofs.YtmheohnbkaoipaaGreat.Vs
set_option linter.all false
set_option linter.unusedSimpArgs false
set_option linter.unusedVariables false
set_option maxRecDepth 100000
attribute [local simp] zbp zct
theorem prn_gone (l : List DtCSnap) (n : Int) (hn : 0 ≤ n) : (l.length : Int) - (prn ((bareN l : Int) - n) 0 l).length = goneN l n := by
 have h := prn_len ((bareN l : Int) - n) l 0
 unfold goneN
 omega
theorem l15PruneX (l : List DtCSnap) (hl : l.length ≤ 1048576) (n : Int) (hn : 0 ≤ n) (hn2 : n ≤ 1048576) : XCall Tryz.prog 79 [.arr 8 0 l.length, (.g (.int .i64 (n)))] [.own 3 (l.map DtCSnap.cells)] (.tup [.arr 16 0 (prn ((bareN l : Int) - n) 0 l).length, (.g (.int .i64 (goneN l n)))]) [.dead] [.own 3 ((prn ((bareN l : Int) - n) 0 l).map DtCSnap.cells)] := by
 refine zbx Tryz.func79 (by rfl) (by rfl) (by rw [Tryz.ntmps79]; exact Nat.le_of_ble_eq_true rfl) rfl (by simp) rfl rfl ?_
 rw [Tryz.ntmps79]
 refine zh3 (.own 3 (l.map DtCSnap.cells)) (by simp [cvO] <;> assumption) ?_
 refine AW_k [(0, _), (1, _)] ⟨rfl, rfl, trivial⟩ ?_
 refine zf6 (us := l) 8 903 (by simp [zbe, zbc, zbj]) (by simp [zbe, zbc, zbj]) fun ys hys hone => ?_
 have hyl : ys.length = l.length := by rw [← hys]; simp
 refine AW_x rfl rfl fun K hK => ?_
 simp (disch := omega)
 repeat' first | (refine ⟨by omega, ?_⟩) | (intro _)
 refine hK _ ?_; clear hK K
 refine AW_x rfl rfl fun K hK => ?_
 simp (disch := omega)
 repeat' first | (refine ⟨by omega, ?_⟩) | (intro _)
 refine hK _ ?_; clear hK K
 refine zbm ?_
 refine AW_x rfl rfl fun K hK => ?_
 simp (disch := omega)
 repeat' first | (refine ⟨by omega, ?_⟩) | (intro _)
 refine hK _ ?_; clear hK K
 refine zbt ?_
 refine zb5 (fun mM sS => ∃ (i : Nat), mM = l.length - i ∧ (i ≤ l.length) ∧ sS = { env := lkE [(0, .arr 8 0 l.length), (1, (.g (.int .i64 (n)))), (6, (.g (.int .i64 ((bareN (l.take i) : Nat))))), (7, (.g (.int .i64 ((i : Nat)))))], ob := lk [(8, .win 3 (ys.map snapV)), (903, .park (ys.flatMap snapP))] }) ?_ ?_
 ·refine ⟨_, LeS.kx [(8, 8), (903, 903)] [(0, .arr 8 0 l.length), (1, (.g (.int .i64 (n)))), (6, (.g (.int .i64 ((bareN (l.take (0)) : Nat))))), (7, (.g (.int .i64 (((0) : Nat)))))] [(8, .win 3 (ys.map snapV)), (903, .park (ys.flatMap snapP))] (by simp [KpR, renV2, renV, zbe, zbv, zbc, zbj, zcf, zct]; try (simp [bareN]; done)) (by simp [KpOX, renO, plO, cvO, renV, pl1, zbc, zbj, zbe, zcf, zct]; try rfl) (by rfl) (by simp) (by simp) (by rfl) (by simp [formsX, List.range_succ, zbc, zbj]), _, 0, rfl, ?_, rfl⟩
  ·simp
 ·rintro mM sS ⟨i, rfl, hi, rfl⟩
  refine zbm ?_
  refine AW_x rfl rfl fun K hK => ?_
  simp (disch := omega)
  repeat' first | (refine ⟨by omega, ?_⟩) | (simp (disch := omega)) | (intro _)
  refine hK _ ?_; clear hK K
  refine zbl rfl (fun hc1 => ?_) (fun hc1 => ?_)
  ·try simp [zba, zbb, zbf, zbd] at hc1
   all_goals
    have hbl : bareN (l.take i) ≤ 1048576 := by have h := zkr (l.take i); rw [List.length_take] at h; omega
    have hyi := zvj hys i (by omega) (by omega)
    have hv1 : (ys[i].2 2).oneCell' = true := hone _ (List.getElem_mem _) 2
    simp only [Value.oneCell'] at hv1
    have hbt := zh9 l i (by omega)
    rw [← hyi] at hbt
    refine zbn ?_
    refine zbq ?_
    refine zbm ?_
    refine zbt ?_
    refine AW_x rfl rfl fun K hK => ?_
    simp (disch := omega) [hv1]
    repeat' first | (exfalso; omega) | (refine ⟨fun _ => ?_, fun _ => ?_⟩) | (refine ⟨by omega, ?_⟩) | (simp (disch := omega) [hv1]) | (intro _)
    all_goals (refine hK _ ?_; clear hK K)
    all_goals
     refine zbl rfl (fun hc2 => ?_) (fun hc2 => ?_)
     ·try simp [zba, zbb, zbf, zbd] at hc2
      all_goals
       refine zcr rfl rfl fun K hK => ?_
       simp (disch := omega) [hv1]
       repeat' first | (exfalso; omega) | (refine ⟨fun _ => ?_, fun _ => ?_⟩) | (refine ⟨by omega, ?_⟩) | (simp (disch := omega) [hv1]) | (intro _)
       all_goals (refine hK _ ?_; clear hK K)
       all_goals
        refine zbq ?_
        refine zcr rfl rfl fun K hK => ?_
        simp (disch := omega) [hv1]
        repeat' first | (refine ⟨by omega, ?_⟩) | (intro _)
        refine hK _ ?_; clear hK K
        refine ⟨_, LeS.kx [(8, 8), (903, 903)] [(0, .arr 8 0 l.length), (1, (.g (.int .i64 (n)))), (6, (.g (.int .i64 ((bareN (l.take (i + 1)) : Nat))))), (7, (.g (.int .i64 (((i + 1) : Nat)))))] [(8, .win 3 (ys.map snapV)), (903, .park (ys.flatMap snapP))] (by simp [KpR, renV2, renV, zbe, zbv, zbc, zbj, zcf, zct]; try (first | omega | (rw [hbt]; split <;> first | omega | (exfalso; simp_all; done)))) (by simp [KpOX, renO, plO, cvO, renV, pl1, zbc, zbj, zbe, zcf, zct]; try rfl) (by rfl) (by simp) (by simp) (by rfl) (by simp [formsX, List.range_succ, zbc, zbj]), _, ?_, i + 1, rfl, ?_, rfl⟩
        ·omega
        ·omega
     try simp [zba, zbb, zbf, zbd] at hc2
     refine zbn ?_
     refine zbq ?_
     refine zcr rfl rfl fun K hK => ?_
     simp (disch := omega) [hv1]
     repeat' first | (exfalso; omega) | (refine ⟨fun _ => ?_, fun _ => ?_⟩) | (refine ⟨by omega, ?_⟩) | (simp (disch := omega) [hv1]) | (intro _)
     all_goals (refine hK _ ?_; clear hK K)
     all_goals
      refine ⟨_, LeS.kx [(8, 8), (903, 903)] [(0, .arr 8 0 l.length), (1, (.g (.int .i64 (n)))), (6, (.g (.int .i64 ((bareN (l.take (i + 1)) : Nat))))), (7, (.g (.int .i64 (((i + 1) : Nat)))))] [(8, .win 3 (ys.map snapV)), (903, .park (ys.flatMap snapP))] (by simp [KpR, renV2, renV, zbe, zbv, zbc, zbj, zcf, zct]; try (first | omega | (rw [hbt]; split <;> first | omega | (exfalso; simp_all; done)))) (by simp [KpOX, renO, plO, cvO, renV, pl1, zbc, zbj, zbe, zcf, zct]; try rfl) (by rfl) (by simp) (by simp) (by rfl) (by simp [formsX, List.range_succ, zbc, zbj]), _, ?_, i + 1, rfl, ?_, rfl⟩
      ·omega
      ·omega
  try simp [zba, zbb, zbf, zbd] at hc1
  have hti : l.take i = l := List.take_of_length_le (by omega)
  refine zb7 ?_
  refine zbq ?_
  refine AW_x rfl rfl fun K hK => ?_
  simp (disch := omega)
  repeat' first | (exfalso; omega) | (refine ⟨fun _ => ?_, fun _ => ?_⟩) | (refine ⟨by omega, ?_⟩) | (simp (disch := omega)) | (intro _)
  all_goals (refine hK _ ?_; clear hK K)
  all_goals
   refine zbm ?_
   refine AW_x rfl rfl fun K hK => ?_
   simp (disch := omega)
   repeat' first | (refine ⟨by omega, ?_⟩) | (intro _)
   refine hK _ ?_; clear hK K
   refine zbt ?_
   refine zb5 (fun mM sS => ∃ (i : Nat) (ks : List SnapV) (b : Int), mM = l.length - i ∧ (i ≤ l.length ∧ ks = prV ((bareN l : Int) - n) 0 (ys.take i) ∧ b = (bareN l : Int) - (bareN (l.take i) : Nat)) ∧ sS = { env := lkE [(0, .arr 8 0 l.length), (1, (.g (.int .i64 (n)))), (6, (.g (.int .i64 (b)))), (8, .arr 904 0 ks.length), (9, (.g (.int .i64 ((i : Nat)))))], ob := lk [(8, .win 3 (ys.map snapV)), (903, .park (ys.flatMap snapP)), (904, .win 3 (ks.map snapV))] }) ?_ ?_
   ·refine ⟨_, LeS.kx [(8, 8), (903, 903), (904, 400)] [(0, .arr 8 0 l.length), (1, (.g (.int .i64 (n)))), (6, (.g (.int .i64 (((bareN l : Int)))))), (8, .arr 904 0 ([]).length), (9, (.g (.int .i64 (((0) : Nat)))))] [(8, .win 3 (ys.map snapV)), (903, .park (ys.flatMap snapP)), (904, .win 3 (([]).map snapV))] (by simp [KpR, renV2, renV, zbe, zbv, zbc, zbj, zcf, zct]; try (first | omega | rw [hti])) (by simp [KpOX, renO, plO, cvO, renV, pl1, zbc, zbj, zbe, zcf, zct]; try rfl) (by rfl) (by simp) (by simp) (by rfl) (by simp [formsX, List.range_succ, zbc, zbj]), _, 0, [], (bareN l : Int), rfl, ?_, rfl⟩
    ·exact ⟨by omega, rfl, by simp [bareN]⟩
   ·rintro mM sS ⟨i, ks, b, rfl, ⟨hi, hks, hb⟩, rfl⟩
    have hkl : ks.length ≤ l.length := by rw [hks]; have h1 := (zho ((bareN l : Int) - n) (ys.take i) 0).length_le; rw [List.length_take] at h1; omega
    have hbm := zrf l i
    have hbl := zkr l
    refine zbm ?_
    refine AW_x rfl rfl fun K hK => ?_
    simp (disch := omega)
    repeat' first | (refine ⟨by omega, ?_⟩) | (simp (disch := omega)) | (intro _)
    refine hK _ ?_; clear hK K
    refine zbl rfl (fun hc3 => ?_) (fun hc3 => ?_)
    ·try simp [zba, zbb, zbf, zbd] at hc3
     all_goals
      have hpt := zvi ((bareN l : Int) - n) ys i (by omega)
      have hyi := zvj hys i (by omega) (by omega)
      have hv1 : (ys[i].2 2).oneCell' = true := hone _ (List.getElem_mem _) 2
      simp only [Value.oneCell'] at hv1
      have hbt := zh9 l i (by omega)
      have hbm2 := zrf l (i + 1)
      rw [← hyi] at hbt
      refine zbn ?_
      refine zbq ?_
      refine zbm ?_
      refine zbt ?_
      refine zbm ?_
      refine AW_x rfl rfl fun K hK => ?_
      simp (disch := omega) [hv1]
      repeat' first | (exfalso; omega) | (refine ⟨fun _ => ?_, fun _ => ?_⟩) | (refine ⟨by omega, ?_⟩) | (simp (disch := omega) [hv1]) | (intro _)
      all_goals (refine hK _ ?_; clear hK K)
      all_goals
       refine zbl rfl (fun hc4 => ?_) (fun hc4 => ?_)
       ·try simp [zba, zbb, zbf, zbd] at hc4
        all_goals
         refine AW_x rfl rfl fun K hK => ?_
         simp (disch := omega) [hv1]
         repeat' first | (exfalso; omega) | (refine ⟨fun _ => ?_, fun _ => ?_⟩) | (refine ⟨by omega, ?_⟩) | (simp (disch := omega) [hv1]) | (intro _)
         all_goals (refine hK _ ?_; clear hK K)
         all_goals
          refine AW_x rfl rfl fun K hK => ?_
          simp (disch := omega) [hv1]
          repeat' first | (refine ⟨by omega, ?_⟩) | (intro _)
          refine hK _ ?_; clear hK K
          refine zbl rfl (fun hc5 => ?_) (fun hc5 => ?_)
          ·try simp [zba, zbb, zbf, zbd] at hc5
           all_goals
            refine zb7 ?_
            refine zbq ?_
            refine zcr rfl rfl fun K hK => ?_
            simp (disch := omega) [hv1]
            repeat' first | (exfalso; omega) | (refine ⟨fun _ => ?_, fun _ => ?_⟩) | (refine ⟨by omega, ?_⟩) | (simp (disch := omega) [hv1]) | (intro _)
            all_goals (refine hK _ ?_; clear hK K)
            all_goals
             refine ⟨_, LeS.kx [(8, 8), (903, 903), (904, 904)] [(0, .arr 8 0 l.length), (1, (.g (.int .i64 (n)))), (6, (.g (.int .i64 ((b - 1))))), (8, .arr 904 0 (ks).length), (9, (.g (.int .i64 (((i + 1) : Nat)))))] [(8, .win 3 (ys.map snapV)), (903, .park (ys.flatMap snapP)), (904, .win 3 ((ks).map snapV))] (by simp [KpR, renV2, renV, zbe, zbv, zbc, zbj, zcf, zct]; try (first | omega | (simp_all; done))) (by simp [KpOX, renO, plO, cvO, renV, pl1, zbc, zbj, zbe, zcf, zct]; try rfl) (by rfl) (by simp) (by simp) (by rfl) (by simp [formsX, List.range_succ, zbc, zbj]), _, ?_, i + 1, ks, b - 1, rfl, ?_, rfl⟩
             ·omega
             ·refine ⟨by omega, ?_, ?_⟩
              ·rw [hys] at hpt; rw [hpt, hks]; split <;> rename_i h <;> first | (simp; done) | (exfalso; obtain ⟨h1, h2⟩ := h; first | omega | (simp_all; done)) | (exfalso; exact h ⟨by assumption, by omega⟩) | trace_state
              ·rw [hbt]; by_cases ht : ys[i].1.fTag = [] <;> first | (simp [ht]; omega) | (exfalso; simp_all; done) | trace_state
          try simp [zba, zbb, zbf, zbd] at hc5
          refine zbn ?_
          refine zbq ?_
          refine zcr rfl rfl fun K hK => ?_
          simp (disch := omega) [hv1]
          repeat' first | (exfalso; omega) | (refine ⟨fun _ => ?_, fun _ => ?_⟩) | (refine ⟨by omega, ?_⟩) | (simp (disch := omega) [hv1]) | (intro _)
          all_goals (refine hK _ ?_; clear hK K)
          all_goals
           refine zbq ?_
           refine zcr rfl rfl fun K hK => ?_
           simp (disch := omega) [hv1]
           repeat' first | (refine ⟨by omega, ?_⟩) | (intro _)
           refine hK _ ?_; clear hK K
           refine ⟨_, LeS.kx [(8, 8), (903, 903), (904, 784)] [(0, .arr 8 0 l.length), (1, (.g (.int .i64 (n)))), (6, (.g (.int .i64 (((if ys[i].1.fTag = [] then b - 1 else b)))))), (8, .arr 904 0 (ks ++ [ys[i]]).length), (9, (.g (.int .i64 (((i + 1) : Nat)))))] [(8, .win 3 (ys.map snapV)), (903, .park (ys.flatMap snapP)), (904, .win 3 ((ks ++ [ys[i]]).map snapV))] (by simp [KpR, renV2, renV, zbe, zbv, zbc, zbj, zcf, zct]; try (first | omega | (simp_all; done))) (by simp [KpOX, renO, plO, cvO, renV, pl1, zbc, zbj, zbe, zcf, zct]; try rfl) (by rfl) (by simp) (by simp) (by rfl) (by simp [formsX, List.range_succ, zbc, zbj]), _, ?_, i + 1, ks ++ [ys[i]], (if ys[i].1.fTag = [] then b - 1 else b), rfl, ?_, rfl⟩
           ·omega
           ·refine ⟨by omega, ?_, ?_⟩
            ·rw [hys] at hpt; rw [hpt, hks]; split <;> rename_i h <;> first | (simp; done) | (exfalso; obtain ⟨h1, h2⟩ := h; first | omega | (simp_all; done)) | (exfalso; exact h ⟨by assumption, by omega⟩) | trace_state
            ·rw [hbt]; by_cases ht : ys[i].1.fTag = [] <;> first | (simp [ht]; omega) | (exfalso; simp_all; done) | trace_state
       try simp [zba, zbb, zbf, zbd] at hc4
       refine zbn ?_
       refine zbq ?_
       refine zcr rfl rfl fun K hK => ?_
       simp (disch := omega) [hv1]
       repeat' first | (exfalso; omega) | (refine ⟨fun _ => ?_, fun _ => ?_⟩) | (refine ⟨by omega, ?_⟩) | (simp (disch := omega) [hv1]) | (intro _)
       all_goals (refine hK _ ?_; clear hK K)
       all_goals
        refine zbq ?_
        refine zcr rfl rfl fun K hK => ?_
        simp (disch := omega) [hv1]
        repeat' first | (refine ⟨by omega, ?_⟩) | (intro _)
        refine hK _ ?_; clear hK K
        refine ⟨_, LeS.kx [(8, 8), (903, 903), (904, 784)] [(0, .arr 8 0 l.length), (1, (.g (.int .i64 (n)))), (6, (.g (.int .i64 (((if ys[i].1.fTag = [] then b - 1 else b)))))), (8, .arr 904 0 (ks ++ [ys[i]]).length), (9, (.g (.int .i64 (((i + 1) : Nat)))))] [(8, .win 3 (ys.map snapV)), (903, .park (ys.flatMap snapP)), (904, .win 3 ((ks ++ [ys[i]]).map snapV))] (by simp [KpR, renV2, renV, zbe, zbv, zbc, zbj, zcf, zct]; try (first | omega | (simp_all; done))) (by simp [KpOX, renO, plO, cvO, renV, pl1, zbc, zbj, zbe, zcf, zct]; try rfl) (by rfl) (by simp) (by simp) (by rfl) (by simp [formsX, List.range_succ, zbc, zbj]), _, ?_, i + 1, ks ++ [ys[i]], (if ys[i].1.fTag = [] then b - 1 else b), rfl, ?_, rfl⟩
        ·omega
        ·refine ⟨by omega, ?_, ?_⟩
         ·rw [hys] at hpt; rw [hpt, hks]; split <;> rename_i h <;> first | (simp; done) | (exfalso; obtain ⟨h1, h2⟩ := h; first | omega | (simp_all; done)) | (exfalso; exact h ⟨by assumption, by omega⟩) | trace_state
         ·rw [hbt]; by_cases ht : ys[i].1.fTag = [] <;> first | (simp [ht]; omega) | (exfalso; simp_all; done) | trace_state
    try simp [zba, zbb, zbf, zbd] at hc3
    have hti2 : ys.take i = ys := List.take_of_length_le (by omega)
    rw [hti2] at hks
    refine zb7 ?_
    refine zbq ?_
    refine zfk (zkq (ks := ks) (zs := ys) 904 903 (by simp [zbe, zbc, zbj]) (by simp [zbe, zbc, zbj]) (by rw [hks]; exact zho _ _ _)) ?_
    have hsn : (ks.map fun z => DtCSnap.cells z.1) = (prn ((bareN l : Int) - n) 0 l).map DtCSnap.cells := by have h := zl4 ((bareN l : Int) - n) ys 0; rw [hys] at h; rw [← h, List.map_map, hks]; rfl
    rw [hsn]
    have hkl2 : ks.length = (prn ((bareN l : Int) - n) 0 l).length := by have h := congrArg List.length hsn; simpa using h
    have hgo := prn_gone l n hn
    refine AW_x rfl rfl fun K hK => ?_
    simp (disch := omega)
    repeat' first | (exfalso; omega) | (refine ⟨fun _ => ?_, fun _ => ?_⟩) | (refine ⟨by omega, ?_⟩) | (simp (disch := omega)) | (intro _)
    all_goals (refine hK _ ?_; clear hK K)
    all_goals
     refine zbo (zcc [904] [] (by simp [List.range_succ, zbc, zbj, zbe]) (by simp) ?_)
     simp (disch := omega)
     all_goals first | rfl | exact ⟨rfl, rfl⟩ | omega | trace_state
end Go.Proofs.YtmheohnbkaoipaaGreat.Vs

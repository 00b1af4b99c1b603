import Derived.Test.YtmheohnbkaoipaaGreatSDecQ
open Go Go.Proofs Go.Proofs.YtmheohnbkaoipaaGreat.Vs
namespace Go.Proofs.YtmheohnbkaoipaaGreat.Vs
set_option linter.all false
set_option linter.unusedSimpArgs false
set_option linter.unusedVariables false
set_option maxRecDepth 100000
attribute [local simp] DtCSet.cells zbp List.set_set List.getD_eq_getElem?_getD zct
noncomputable def pruS (s : DtCSet) (n : Int) : DtCSet := { fName := s.fName, fSnaps := prn ((bareN s.fSnaps : Int) - n) 0 s.fSnaps }
theorem zl5 (l : List DtCSnap) (n : Int) (h5 : l.length ≤ 5) (h0 : 0 ≤ n) : 0 ≤ goneN l n ∧ goneN l n ≤ 5 ∧ (goneN l n).toNat < 10 ∧ ((goneN l n).toNat : Int) = goneN l n := by
 have := zkr l
 unfold goneN
 omega
theorem pruneX (l : List DtCSet) (hl : l.length ≤ 1048576) (k : Nat) (hk : k < l.length) (h5 : l[k].fSnaps.length ≤ 5) (n : Int) (hn : 0 ≤ n ∧ n ≤ 1048576) : XCall Tryz.prog 65 [.eptr 8 k 0, (.g (.int .i64 (n)))] [.own 2 (l.map DtCSet.cells)] (.s (digN (goneN l[k].fSnaps n).toNat)) [.own 2 ((l.set k (pruS l[k] n)).map DtCSet.cells)] [] := by
 obtain ⟨hg0, hg5, hg10, hgn⟩ := zl5 l[k].fSnaps n h5 hn.1
 refine zbx Tryz.func65 (by rfl) (by rfl) (by rw [Tryz.ntmps65]; exact Nat.le_of_ble_eq_true rfl) rfl (by simp) rfl rfl ?_
 rw [Tryz.ntmps65]
 refine zh3 (.own 2 (l.map DtCSet.cells)) (by simp [cvO] <;> assumption) ?_
 refine AW_k [(0, _), (1, _)] ⟨rfl, rfl, trivial⟩ ?_
 refine zgh 8 901 902 k hk (by simp [zbe, zbc, zbj]) (by simp [zbe, zbc, zbj]) (by simp [zbe, zbc, zbj]) (by decide) (by decide) (by decide) fun zs hz => ?_
 have hkz : k < zs.length := by rw [← hz] at hk; simpa using hk
 have hset := @zre zs k hkz
 refine zf6 (us := l[k].fSnaps) 902 903 (by simp [zbe, zbc, zbj]) (by simp [zbe, zbc, zbj]) fun ys hys hone => ?_
 have hyl : ys.length = l[k].fSnaps.length := by rw [← hys]; simp
 refine AW_x rfl rfl fun K hK => ?_
 simp (disch := omega) [hset, hgn]
 repeat' first | (refine ⟨by omega, ?_⟩) | (intro _)
 refine hK _ ?_; clear hK K
 refine AW_x rfl rfl fun K hK => ?_
 simp (disch := omega) [hset, hgn]
 repeat' first | (refine ⟨by omega, ?_⟩) | (intro _)
 refine hK _ ?_; clear hK K
 refine zbm ?_
 refine AW_x rfl rfl fun K hK => ?_
 simp (disch := omega) [hset, hgn]
 repeat' first | (refine ⟨by omega, ?_⟩) | (simp (disch := omega) [hset, hgn]) | (intro _)
 refine hK _ ?_; clear hK K
 refine zbt ?_
 refine zb5 (fun mM sS => ∃ (i : Nat), mM = ys.length - i ∧ (i ≤ ys.length) ∧ sS = { env := lkE [(0, .eptr 8 k 0), (5, (.g (.int .i64 (-n + (bareN (l[k].fSnaps.take i) : Nat))))), (17, .arr 902 0 l[k].fSnaps.length), (18, (.g (.int .i64 ((l[k].fSnaps.length : Nat))))), (19, (.g (.int .i64 ((i : Nat)))))], ob := lk [(8, .win 2 ((zs.map setV).set k [.s l[k].fName, .arr 902 0 l[k].fSnaps.length])), (901, .park ((zs.take k).flatMap setP ++ (zs.drop (k + 1)).flatMap setP)), (902, .win 3 (ys.map snapV)), (903, .park (ys.flatMap snapP))] }) ?_ ?_
 ·refine ⟨_, LeS.kw [(8, 8), (901, 901), (902, 902), (903, 903)] [(0, .eptr 8 k 0), (5, (.g (.int .i64 (-n + (bareN (l[k].fSnaps.take (0)) : Nat))))), (17, .arr 902 0 l[k].fSnaps.length), (18, (.g (.int .i64 ((l[k].fSnaps.length : Nat))))), (19, (.g (.int .i64 (((0) : Nat)))))] [(8, .win 2 ((zs.map setV).set k [.s l[k].fName, .arr 902 0 l[k].fSnaps.length])), (901, .park ((zs.take k).flatMap setP ++ (zs.drop (k + 1)).flatMap setP)), (902, .win 3 (ys.map snapV)), (903, .park (ys.flatMap snapP))] (by simp [KpR, renV2, renV, zbe, zbv, zbc, zbj, zcf, zct]; try (simp [bareN]; done)) (by simp [KpOW, wnO, renO, plO, cvO, renV, pl1, zbc, zbj, zbe, zcf, zct]; first | exact .inr (zhd (zcm zs) ⟨rfl, rfl, rfl⟩) | trace_state) (by rfl) (by simp) (by simp) (by rfl) (by simp [formsX, List.range_succ, zbc, zbj]), _, 0, rfl, ?_, rfl⟩
  ·simp
 ·rintro mM sS ⟨i, rfl, hi, rfl⟩
  refine AW_x rfl rfl fun K hK => ?_
  simp (disch := omega) [hset, hgn]
  repeat' first | (refine ⟨by omega, ?_⟩) | (intro _)
  refine hK _ ?_; clear hK K
  refine zbm ?_
  refine zbl rfl (fun hc1 => ?_) (fun hc1 => ?_)
  ·try simp [zba, zbb, zbf, zbd] at hc1
   all_goals
    have hbl : bareN (l[k].fSnaps.take i) ≤ 5 := by have h := zkr (l[k].fSnaps.take i); rw [List.length_take] at h; omega
    have hyi : ys[i].1 = l[k].fSnaps[i] := by have h : (ys.map (·.1))[i]'(by simp; omega) = l[k].fSnaps[i] := by simp only [hys]
                                              simpa using h
    have hv1 : (ys[i].2 2).oneCell' = true := hone _ (List.getElem_mem _) 2
    simp only [Value.oneCell'] at hv1
    have hbt := zh9 l[k].fSnaps i (by omega)
    rw [← hyi] at hbt
    refine zbn ?_
    refine zbq ?_
    refine zbm ?_
    refine zbt ?_
    refine AW_x rfl rfl fun K hK => ?_
    simp (disch := omega) [hset, hgn, hv1]
    repeat' first | (exfalso; omega) | (refine ⟨fun _ => ?_, fun _ => ?_⟩) | (refine ⟨by omega, ?_⟩) | (simp (disch := omega) [hset, hgn, hv1]) | (intro _)
    all_goals (refine hK _ ?_; clear hK K)
    all_goals
     refine AW_x rfl rfl fun K hK => ?_
     simp (disch := omega) [hset, hgn, hv1]
     repeat' first | (refine ⟨by omega, ?_⟩) | (intro _)
     refine hK _ ?_; clear hK K
     refine zbl rfl (fun hc2 => ?_) (fun hc2 => ?_)
     ·try simp [zba, zbb, zbf, zbd] at hc2
      all_goals
       refine zcr rfl rfl fun K hK => ?_
       simp (disch := omega) [hset, hgn, hv1]
       repeat' first | (exfalso; omega) | (refine ⟨fun _ => ?_, fun _ => ?_⟩) | (refine ⟨by omega, ?_⟩) | (simp (disch := omega) [hset, hgn, hv1]) | (intro _)
       all_goals (refine hK _ ?_; clear hK K)
       all_goals
        refine zbq ?_
        refine zcr rfl rfl fun K hK => ?_
        simp (disch := omega) [hset, hgn, hv1]
        repeat' first | (refine ⟨by omega, ?_⟩) | (intro _)
        refine hK _ ?_; clear hK K
        refine ⟨_, LeS.kw [(8, 8), (901, 901), (902, 902), (903, 903)] [(0, .eptr 8 k 0), (5, (.g (.int .i64 (-n + (bareN (l[k].fSnaps.take (i + 1)) : Nat))))), (17, .arr 902 0 l[k].fSnaps.length), (18, (.g (.int .i64 ((l[k].fSnaps.length : Nat))))), (19, (.g (.int .i64 (((i + 1) : Nat)))))] [(8, .win 2 ((zs.map setV).set k [.s l[k].fName, .arr 902 0 l[k].fSnaps.length])), (901, .park ((zs.take k).flatMap setP ++ (zs.drop (k + 1)).flatMap setP)), (902, .win 3 (ys.map snapV)), (903, .park (ys.flatMap snapP))] (by simp [KpR, renV2, renV, zbe, zbv, zbc, zbj, zcf, zct]; try (first | omega | (rw [hbt]; split <;> first | omega | (exfalso; simp_all; done)))) (by simp [KpOW, wnO, renO, plO, cvO, renV, pl1, zbc, zbj, zbe, zcf, zct]; first | exact .inr (zhd (zcm zs) ⟨rfl, rfl, rfl⟩) | trace_state) (by rfl) (by simp) (by simp) (by rfl) (by simp [formsX, List.range_succ, zbc, zbj]), _, ?_, i + 1, rfl, ?_, rfl⟩
        ·omega
        ·omega
     try simp [zba, zbb, zbf, zbd] at hc2
     refine zbn ?_
     refine zbq ?_
     refine zcr rfl rfl fun K hK => ?_
     simp (disch := omega) [hset, hgn, hv1]
     repeat' first | (exfalso; omega) | (refine ⟨fun _ => ?_, fun _ => ?_⟩) | (refine ⟨by omega, ?_⟩) | (simp (disch := omega) [hset, hgn, hv1]) | (intro _)
     all_goals (refine hK _ ?_; clear hK K)
     all_goals
      refine ⟨_, LeS.kw [(8, 8), (901, 901), (902, 902), (903, 903)] [(0, .eptr 8 k 0), (5, (.g (.int .i64 (-n + (bareN (l[k].fSnaps.take (i + 1)) : Nat))))), (17, .arr 902 0 l[k].fSnaps.length), (18, (.g (.int .i64 ((l[k].fSnaps.length : Nat))))), (19, (.g (.int .i64 (((i + 1) : Nat)))))] [(8, .win 2 ((zs.map setV).set k [.s l[k].fName, .arr 902 0 l[k].fSnaps.length])), (901, .park ((zs.take k).flatMap setP ++ (zs.drop (k + 1)).flatMap setP)), (902, .win 3 (ys.map snapV)), (903, .park (ys.flatMap snapP))] (by simp [KpR, renV2, renV, zbe, zbv, zbc, zbj, zcf, zct]; try (first | omega | (rw [hbt]; split <;> first | omega | (exfalso; simp_all; done)))) (by simp [KpOW, wnO, renO, plO, cvO, renV, pl1, zbc, zbj, zbe, zcf, zct]; first | exact .inr (zhd (zcm zs) ⟨rfl, rfl, rfl⟩) | trace_state) (by rfl) (by simp) (by simp) (by rfl) (by simp [formsX, List.range_succ, zbc, zbj]), _, ?_, i + 1, rfl, ?_, rfl⟩
      ·omega
      ·omega
  try simp [zba, zbb, zbf, zbd] at hc1
  have hti : l[k].fSnaps.take i = l[k].fSnaps := List.take_of_length_le (by omega)
  refine zb7 ?_
  refine zbq ?_
  refine AW_x rfl rfl fun K hK => ?_
  simp (disch := omega) [hset, hgn]
  repeat' first | (exfalso; omega) | (refine ⟨fun _ => ?_, fun _ => ?_⟩) | (refine ⟨by omega, ?_⟩) | (simp (disch := omega) [hset, hgn]) | (intro _)
  all_goals (refine hK _ ?_; clear hK K)
  all_goals
   refine AW_x rfl rfl fun K hK => ?_
   simp (disch := omega) [hset, hgn]
   repeat' first | (refine ⟨by omega, ?_⟩) | (simp (disch := omega) [hset, hgn]) | (intro _)
   refine hK _ ?_; clear hK K
   refine AW_x rfl rfl fun K hK => ?_
   simp (disch := omega) [hset, hgn]
   repeat' first | (refine ⟨by omega, ?_⟩) | (intro _)
   refine hK _ ?_; clear hK K
   refine zbm ?_
   refine AW_x rfl rfl fun K hK => ?_
   simp (disch := omega) [hset, hgn]
   repeat' first | (refine ⟨by omega, ?_⟩) | (simp (disch := omega) [hset, hgn]) | (intro _)
   refine hK _ ?_; clear hK K
   refine zbt ?_
   refine zb5 (fun mM sS => ∃ (i : Nat) (ks : List SnapV) (d : Int), mM = ys.length - i ∧ (i ≤ ys.length ∧ ks = prV ((bareN l[k].fSnaps : Int) - n) 0 (ys.take i) ∧ d = min (bareN (l[k].fSnaps.take i) : Int) (goneN l[k].fSnaps n)) ∧ sS = { env := lkE [(0, .eptr 8 k 0), (5, (.g (.int .i64 (goneN l[k].fSnaps n)))), (8, .arr 904 0 ks.length), (9, (.g (.int .i64 (d)))), (35, .arr 902 0 l[k].fSnaps.length), (36, (.g (.int .i64 ((l[k].fSnaps.length : Nat))))), (37, (.g (.int .i64 ((i : Nat)))))], ob := lk [(8, .win 2 ((zs.map setV).set k [.s l[k].fName, .arr 902 0 l[k].fSnaps.length])), (901, .park ((zs.take k).flatMap setP ++ (zs.drop (k + 1)).flatMap setP)), (902, .win 3 (ys.map snapV)), (903, .park (ys.flatMap snapP)), (904, .win 3 (ks.map snapV))] }) ?_ ?_
   ·refine ⟨_, LeS.kw [(8, 8), (901, 901), (902, 902), (903, 903), (904, 512)] [(0, .eptr 8 k 0), (5, (.g (.int .i64 (goneN l[k].fSnaps n)))), (8, .arr 904 0 ([]).length), (9, (.g (.int .i64 ((0))))), (35, .arr 902 0 l[k].fSnaps.length), (36, (.g (.int .i64 ((l[k].fSnaps.length : Nat))))), (37, (.g (.int .i64 (((0) : Nat)))))] [(8, .win 2 ((zs.map setV).set k [.s l[k].fName, .arr 902 0 l[k].fSnaps.length])), (901, .park ((zs.take k).flatMap setP ++ (zs.drop (k + 1)).flatMap setP)), (902, .win 3 (ys.map snapV)), (903, .park (ys.flatMap snapP)), (904, .win 3 (([]).map snapV))] (by simp [KpR, renV2, renV, zbe, zbv, zbc, zbj, zcf, zct]; try (first | omega | (rw [hti]; unfold goneN; split <;> omega))) (by simp [KpOW, wnO, renO, plO, cvO, renV, pl1, zbc, zbj, zbe, zcf, zct]; first | exact .inr (zhd (zcm zs) ⟨rfl, rfl, rfl⟩) | trace_state) (by rfl) (by simp) (by simp) (by rfl) (by simp [formsX, List.range_succ, zbc, zbj]), _, 0, [], 0, rfl, ?_, rfl⟩
    ·exact ⟨by omega, rfl, by simp [bareN]; omega⟩
   ·rintro mM sS ⟨i, ks, d, rfl, ⟨hi, hks, hd⟩, rfl⟩
    have hkl : ks.length ≤ 5 := by rw [hks]; have h1 := (zho ((bareN l[k].fSnaps : Int) - n) (ys.take i) 0).length_le; rw [List.length_take] at h1; omega
    refine AW_x rfl rfl fun K hK => ?_
    simp (disch := omega) [hset, hgn]
    repeat' first | (refine ⟨by omega, ?_⟩) | (intro _)
    refine hK _ ?_; clear hK K
    refine zbm ?_
    refine zbl rfl (fun hc3 => ?_) (fun hc3 => ?_)
    ·try simp [zba, zbb, zbf, zbd] at hc3
     all_goals
      have hpt := zvi ((bareN l[k].fSnaps : Int) - n) ys i (by omega)
      have hyi : ys[i].1 = l[k].fSnaps[i] := by have h : (ys.map (·.1))[i]'(by simp; omega) = l[k].fSnaps[i] := by simp only [hys]
                                                simpa using h
      have hv1 : (ys[i].2 2).oneCell' = true := hone _ (List.getElem_mem _) 2
      simp only [Value.oneCell'] at hv1
      have hbt := zh9 l[k].fSnaps i (by omega)
      rw [← hyi] at hbt
      refine zbn ?_
      refine zbq ?_
      refine zbm ?_
      refine zbt ?_
      refine AW_x rfl rfl fun K hK => ?_
      simp (disch := omega) [hset, hgn, hv1]
      repeat' first | (exfalso; omega) | (refine ⟨fun _ => ?_, fun _ => ?_⟩) | (refine ⟨by omega, ?_⟩) | (simp (disch := omega) [hset, hgn, hv1]) | (intro _)
      all_goals (refine hK _ ?_; clear hK K)
      all_goals
       refine AW_x rfl rfl fun K hK => ?_
       simp (disch := omega) [hset, hgn, hv1]
       repeat' first | (exfalso; omega) | (refine ⟨fun _ => ?_, fun _ => ?_⟩) | (refine ⟨by omega, ?_⟩) | (simp (disch := omega) [hset, hgn, hv1]) | (intro _)
       all_goals (refine hK _ ?_; clear hK K)
       all_goals
        refine zbl rfl (fun hc4 => ?_) (fun hc4 => ?_)
        ·try simp [zba, zbb, zbf, zbd] at hc4
         all_goals
          refine zcr rfl rfl fun K hK => ?_
          simp (disch := omega) [hset, hgn, hv1]
          repeat' first | (exfalso; omega) | (refine ⟨fun _ => ?_, fun _ => ?_⟩) | (refine ⟨by omega, ?_⟩) | (simp (disch := omega) [hset, hgn, hv1]) | (intro _)
          all_goals (refine hK _ ?_; clear hK K)
          all_goals
           refine zbq ?_
           refine zcr rfl rfl fun K hK => ?_
           simp (disch := omega) [hset, hgn, hv1]
           repeat' first | (refine ⟨by omega, ?_⟩) | (intro _)
           refine hK _ ?_; clear hK K
           refine ⟨_, LeS.kw [(8, 8), (901, 901), (902, 902), (903, 903), (904, 904)] [(0, .eptr 8 k 0), (5, (.g (.int .i64 (goneN l[k].fSnaps n)))), (8, .arr 904 0 (ks).length), (9, (.g (.int .i64 ((d + 1))))), (35, .arr 902 0 l[k].fSnaps.length), (36, (.g (.int .i64 ((l[k].fSnaps.length : Nat))))), (37, (.g (.int .i64 (((i + 1) : Nat)))))] [(8, .win 2 ((zs.map setV).set k [.s l[k].fName, .arr 902 0 l[k].fSnaps.length])), (901, .park ((zs.take k).flatMap setP ++ (zs.drop (k + 1)).flatMap setP)), (902, .win 3 (ys.map snapV)), (903, .park (ys.flatMap snapP)), (904, .win 3 ((ks).map snapV))] (by simp [KpR, renV2, renV, zbe, zbv, zbc, zbj, zcf, zct]; try omega) (by simp [KpOW, wnO, renO, plO, cvO, renV, pl1, zbc, zbj, zbe, zcf, zct]; first | exact .inr (zhd (zcm zs) ⟨rfl, rfl, rfl⟩) | trace_state) (by rfl) (by simp) (by simp) (by rfl) (by simp [formsX, List.range_succ, zbc, zbj]), _, ?_, i + 1, ks, d + 1, rfl, ?_, rfl⟩
           ·omega
           ·rw [hys] at hpt
            have hgd : goneN l[k].fSnaps n = max 0 ((bareN l[k].fSnaps : Int) - n) := rfl
            refine ⟨by omega, ?_, ?_⟩
            ·rw [hpt, hks]; split <;> rename_i h <;> first | (simp; done) | (exfalso; obtain ⟨h1, h2⟩ := h; first | omega | (simp_all; done)) | (exfalso; exact h ⟨by assumption, by omega⟩) | trace_state
            ·rw [hbt]; by_cases ht : ys[i].1.fTag = [] <;> first | (simp [ht]; omega) | (exfalso; simp_all; done) | trace_state
        try simp [zba, zbb, zbf, zbd] at hc4
        refine zcr rfl rfl fun K hK => ?_
        simp (disch := omega) [hset, hgn, hv1]
        repeat' first | (exfalso; omega) | (refine ⟨fun _ => ?_, fun _ => ?_⟩) | (refine ⟨by omega, ?_⟩) | (simp (disch := omega) [hset, hgn, hv1]) | (intro _)
        all_goals (refine hK _ ?_; clear hK K)
        all_goals
         refine zbq ?_
         refine zcr rfl rfl fun K hK => ?_
         simp (disch := omega) [hset, hgn, hv1]
         repeat' first | (refine ⟨by omega, ?_⟩) | (intro _)
         refine hK _ ?_; clear hK K
         refine ⟨_, LeS.kw [(8, 8), (901, 901), (902, 902), (903, 903), (904, 880)] [(0, .eptr 8 k 0), (5, (.g (.int .i64 (goneN l[k].fSnaps n)))), (8, .arr 904 0 (ks ++ [ys[i]]).length), (9, (.g (.int .i64 ((d))))), (35, .arr 902 0 l[k].fSnaps.length), (36, (.g (.int .i64 ((l[k].fSnaps.length : Nat))))), (37, (.g (.int .i64 (((i + 1) : Nat)))))] [(8, .win 2 ((zs.map setV).set k [.s l[k].fName, .arr 902 0 l[k].fSnaps.length])), (901, .park ((zs.take k).flatMap setP ++ (zs.drop (k + 1)).flatMap setP)), (902, .win 3 (ys.map snapV)), (903, .park (ys.flatMap snapP)), (904, .win 3 ((ks ++ [ys[i]]).map snapV))] (by simp [KpR, renV2, renV, zbe, zbv, zbc, zbj, zcf, zct]; try omega) (by simp [KpOW, wnO, renO, plO, cvO, renV, pl1, zbc, zbj, zbe, zcf, zct]; first | exact .inr (zhd (zcm zs) ⟨rfl, rfl, rfl⟩) | trace_state) (by rfl) (by simp) (by simp) (by rfl) (by simp [formsX, List.range_succ, zbc, zbj]), _, ?_, i + 1, ks ++ [ys[i]], d, rfl, ?_, rfl⟩
         ·omega
         ·rw [hys] at hpt
          have hgd : goneN l[k].fSnaps n = max 0 ((bareN l[k].fSnaps : Int) - n) := rfl
          refine ⟨by omega, ?_, ?_⟩
          ·rw [hpt, hks]; split <;> rename_i h <;> first | (simp; done) | (exfalso; obtain ⟨h1, h2⟩ := h; first | omega | (simp_all; done)) | (exfalso; exact h ⟨by assumption, by omega⟩) | trace_state
          ·rw [hbt]; by_cases ht : ys[i].1.fTag = [] <;> first | (simp [ht]; omega) | (exfalso; simp_all; done) | trace_state
    try simp [zba, zbb, zbf, zbd] at hc3
    have hti2 : ys.take i = ys := List.take_of_length_le (by omega)
    rw [hti2] at hks
    refine zb7 ?_
    refine zbq ?_
    refine AW_x rfl rfl fun K hK => ?_
    simp (disch := omega) [hset, hgn]
    repeat' first | (exfalso; omega) | (refine ⟨fun _ => ?_, fun _ => ?_⟩) | (refine ⟨by omega, ?_⟩) | (simp (disch := omega) [hset, hgn]) | (intro _)
    all_goals (refine hK _ ?_; clear hK K)
    all_goals
     refine zfk (zkq (ks := ks) (zs := ys) 904 903 (by simp [zbe, zbc, zbj]) (by simp [zbe, zbc, zbj]) (by rw [hks]; exact zho _ _ _)) ?_
     have hsn : (ks.map fun z => DtCSnap.cells z.1) = (pruS l[k] n).fSnaps.map DtCSnap.cells := by have h := zl4 ((bareN l[k].fSnaps : Int) - n) ys 0; rw [hys] at h; show _ = (prn _ 0 l[k].fSnaps).map _; rw [← h, List.map_map, hks]; rfl
     rw [hsn]
     have hkl2 : ks.length = (pruS l[k] n).fSnaps.length := by have h := congrArg List.length hsn; simpa using h
     refine zcu 8 901 904 k hz hk l[k].fName (pruS l[k] n).fSnaps (by simp [zbe, zbc, zbj, hkl2]) (by simp [zbe, zbc, zbj]) (by simp [zbe, zbc, zbj]) (by decide) (by decide) (by decide) ?_
     refine AW_x rfl rfl fun K hK => ?_
     simp (disch := omega) [hset, hgn]
     repeat' first | (exfalso; omega) | (refine zdq (zbh zcp zbs) (implDec _ hg10) rfl ?_; simp (disch := omega) [hset, hgn]) | (refine zdr (implDec _ hg10) (by rfl) ?_ ?_; (focus (simp (disch := omega) [hset, hgn, zbp]; done)); simp (disch := omega) [hset, hgn]) | (refine ⟨by omega, ?_⟩) | (simp (disch := omega) [hset, hgn]) | (intro _)
     refine hK _ ?_; clear hK K
     refine zbo (zcc [] [] (by simp [List.range_succ, zbc, zbj, zbe]) (by simp) ?_)
     simp (disch := omega) [hset, hgn]
     all_goals first | rfl | exact ⟨rfl, rfl⟩ | trace_state
end Go.Proofs.YtmheohnbkaoipaaGreat.Vs

import Derived.Test.YtmheohnbkaoipaaSFiQ
open Go Go.Proofs Go.Proofs.Ytmheohnbkaoipaa.Vs
namespace Go.Proofs.Ytmheohnbkaoipaa.Vs
set_option linter.all false
set_option linter.unusedSimpArgs false
set_option linter.unusedVariables false
set_option maxRecDepth 100000
set_option maxHeartbeats 2000000
attribute [local simp] DtState.cells DtCatalog.cells DtCall.cells DtCmd.cells zbu and_assoc cI List.range_succ
theorem implFits (l : List DtCall) (hs : szS DtCall.sz l ≤ 1048576) (o : List Int) (ho : o.length ≤ 1048576) : XCall Try.prog 37 [.sl 11 (l.map DtCall.cells), .sl 1 (o.map cI)] [] (.g (.bool (decB (CallsP l ∧ o.length = l.length ∧ FitsP l o)))) [] [] := by
 have ⟨hl, hm⟩ := ztx l hs
 refine zb5 Try.func37 (by rfl) (by rfl) (by rw [Try.ntmps37]; exact Nat.le_of_ble_eq_true rfl) rfl (by simp) rfl rfl ?_
 rw [Try.ntmps37]
 refine zji   ?_
 refine AW_k [(0, _), (1, _)] ⟨rfl, rfl, trivial⟩ ?_
 refine AW_x rfl rfl fun K hK => ?_
 simp (disch := omega)
 repeat' first | (refine ⟨by omega, ?_⟩) | (intro _)
 refine hK _ ?_; clear hK K
 refine zbl ?_
 refine AW_x rfl rfl fun K hK => ?_
 simp (disch := omega)
 repeat' first | (exfalso; omega) | (refine zfs (zbh zcs zbp) (zlo l hs) rfl ?_; simp (disch := omega)) | (refine zft (zlo l hs) (by rfl) ?_ ?_; (focus (simp (disch := omega) [zbu]; done)); simp (disch := omega)) | (refine ⟨fun _ => ?_, fun _ => ?_⟩) | (refine ⟨by omega, ?_⟩) | (simp (disch := omega)) | (intro _)
 all_goals (refine hK _ ?_; clear hK K)
 all_goals
  refine zbk rfl (fun hc1 => ?_) (fun hc1 => ?_)
  ·try simp [zba, zbb, zbe, zbc] at hc1
   all_goals
    refine AW_x rfl rfl fun K hK => ?_
    simp (disch := omega)
    repeat' first | (exfalso; omega) | (refine ⟨fun _ => ?_, fun _ => ?_⟩) | (refine ⟨by omega, ?_⟩) | (simp (disch := omega)) | (intro _)
    all_goals (refine hK _ ?_; clear hK K)
    all_goals
     refine zbn (zcf [] [] (by simp [List.range_succ, zbd, zbi, zbf]) (by simp) ?_)
     simp (disch := omega)
     all_goals first | exact zca fun h => hc1 (by omega) | exact zca fun h => ((zbb _).mp (by assumption)) h.1 | exact zcb ⟨(zba _).mp (by assumption), by omega, fun j h => hpre j (by omega) h⟩ | (refine zca fun h => ?_; have h2 := h.2.2 i hc2; clear h hst hpre hpr; simp only [List.any_eq_false] at h2; grind) | trace_state
  ·try simp [zba, zbb, zbe, zbc] at hc1
   all_goals
    refine zbm ?_
    refine zbr ?_
    refine AW_x rfl rfl fun K hK => ?_
    simp (disch := omega)
    repeat' first | (exfalso; omega) | (refine ⟨fun _ => ?_, fun _ => ?_⟩) | (refine ⟨by omega, ?_⟩) | (simp (disch := omega)) | (intro _)
    all_goals (refine hK _ ?_; clear hK K)
    all_goals
     refine zbl ?_
     refine AW_x rfl rfl fun K hK => ?_
     simp (disch := omega)
     repeat' first | (refine ⟨by omega, ?_⟩) | (simp (disch := omega)) | (intro _)
     refine hK _ ?_; clear hK K
     refine zbs ?_
     refine zb3 (fun mM sS => ∃ (i : Nat), mM = o.length - i ∧ (i ≤ o.length ∧ ∀ j, j < i → FitP l o j) ∧ sS = { env := lkE [(0, .sl 11 (l.map DtCall.cells)), (1, .sl 1 (o.map cI)), (5, .ptr 96 0), (21, .sl 1 (o.map cI)), (22, (.g (.int .i64 ((o.length : Nat))))), (23, (.g (.int .i64 ((i : Nat)))))], ob := lk [(96, .cells [.arr 500 0 (stP l (o.take i)).fCat.fSets.length, .arr 502 0 (stP l (o.take i)).fSaid.length]), (500, .own 2 ((stP l (o.take i)).fCat.fSets.map DtCSet.cells)), (502, .own 3 ((stP l (o.take i)).fSaid.map DtSaid.cells))] }) ?_ ?_
     ·refine ⟨_, LeS.trans (LeS.znc (cs := [.g (.slice none 0 0), .g (.slice none 0 0)]) 500 2 96 0 (by simp [zbf, zbd, zbi, zbt]) (by simp [zbf, zbd, zbi, zbt]) (by rfl)) (LeS.trans (LeS.znc (cs := [.arr 500 0 0, .g (.slice none 0 0)]) 502 3 96 1 (by simp [zbf, zbd, zbi, zbt]) (by simp [zbf, zbd, zbi, zbt]) (by rfl)) (LeS.kx [(96, 96), (500, 500), (502, 502)] [(0, .sl 11 (l.map DtCall.cells)), (1, .sl 1 (o.map cI)), (5, .ptr 96 0), (21, .sl 1 (o.map cI)), (22, (.g (.int .i64 ((o.length : Nat))))), (23, (.g (.int .i64 (((0) : Nat)))))] [(96, .cells [.arr 500 0 (stP l (o.take (0))).fCat.fSets.length, .arr 502 0 (stP l (o.take (0))).fSaid.length]), (500, .own 2 ((stP l (o.take (0))).fCat.fSets.map DtCSet.cells)), (502, .own 3 ((stP l (o.take (0))).fSaid.map DtSaid.cells))] (by simp [KpR, renV2, renV, zbf, zbt, zbd, zbi]; first | omega | (rw [hst, hcm]; done) | (rw [hst, hcm]; rfl) | trace_state) (by simp [KpOX, renO, plO, cvO, renV, pl1, zbd, zbi, zbf]; first | rfl | exact ⟨rfl, rfl, rfl, rfl⟩ | exact ⟨⟨rfl, rfl⟩, rfl, rfl⟩ | (rw [hst, hcm]; simp; done) | trace_state) (by rfl) (by simp) (by simp) (by rfl) (by simp [formsX, List.range_succ, zbd, zbi]))), _, 0, rfl, ?_, rfl⟩
      ·simp
     ·rintro mM sS ⟨i, rfl, ⟨hi, hpre⟩, rfl⟩
      refine AW_x rfl rfl fun K hK => ?_
      simp (disch := omega)
      repeat' first | (refine ⟨by omega, ?_⟩) | (intro _)
      refine hK _ ?_; clear hK K
      refine zbl ?_
      refine zbk rfl (fun hc2 => ?_) (fun hc2 => ?_)
      ·try simp [zba, zbb, zbe, zbc] at hc2
       all_goals
        have hg : o[i]? = some o[i] := List.getElem?_eq_getElem (by omega)
        have hpr : ∀ j ∈ o.take i, 0 ≤ j ∧ j < (l.length : Int) := fun j hj => by
         obtain ⟨a, ha, rfl⟩ := List.getElem_of_mem hj
         simp only [List.length_take] at ha
         simp only [List.getElem_take]
         have := hpre a (by omega) (by omega)
         exact ⟨this.1, this.2.1⟩
        have hst := ztv l o i (by omega)
        refine zbm ?_
        refine zbr ?_
        refine zbl ?_
        refine zbs ?_
        refine AW_x rfl rfl fun K hK => ?_
        simp (disch := omega)
        repeat' first | (exfalso; omega) | (refine ⟨fun _ => ?_, fun _ => ?_⟩) | (refine ⟨by omega, ?_⟩) | (simp (disch := omega)) | (intro _)
        all_goals (refine hK _ ?_; clear hK K)
        all_goals
         refine zbl ?_
         refine AW_x rfl rfl fun K hK => ?_
         simp (disch := omega)
         repeat' first | (exfalso; omega) | (refine zfs (zbh zct (zbh zct (zbh zct zbp))) (zjc _ _ _) rfl ?_; simp (disch := omega)) | (refine zft (zjc _ _ _) (by rfl) ?_ ?_; (focus (simp (disch := omega) [zbu]; done)); simp (disch := omega)) | (refine zfs (zbh zcs (zbh zct zbp)) (zmq _ (o.take i) (by simp) _ (by simp; omega)) rfl ?_; simp (disch := omega)) | (refine zft (zmq _ (o.take i) (by simp) _ (by simp; omega)) (by rfl) ?_ ?_; (focus (simp (disch := omega) [zbu]; done)); simp (disch := omega)) | (refine zfs (zbh zcs (zbh zcs (zbh zct zbp))) (zz0 l _ (o.take i) (by simp) _ (by simp; omega) hpr (by omega)) rfl ?_; simp (disch := omega)) | (refine zft (zz0 l _ (o.take i) (by simp) _ (by simp; omega) hpr (by omega)) (by rfl) ?_ ?_; (focus (simp (disch := omega) [zbu]; done)); simp (disch := omega)) | (refine ⟨fun _ => ?_, fun _ => ?_⟩) | (refine ⟨by omega, ?_⟩) | (simp (disch := omega)) | (intro _)
         all_goals (refine hK _ ?_; clear hK K)
         all_goals
          refine zbk rfl (fun hc3 => ?_) (fun hc3 => ?_)
          ·try simp [zba, zbb, zbe, zbc] at hc3
           all_goals
            refine AW_x rfl rfl fun K hK => ?_
            simp (disch := omega)
            repeat' first | (exfalso; omega) | (refine ⟨fun _ => ?_, fun _ => ?_⟩) | (refine ⟨by omega, ?_⟩) | (simp (disch := omega)) | (intro _)
            all_goals (refine hK _ ?_; clear hK K)
            all_goals
             refine zbn (zcf [] [] (by simp [List.range_succ, zbd, zbi, zbf]) (by simp) ?_)
             simp (disch := omega)
             all_goals first | exact zca fun h => hc1 (by omega) | exact zca fun h => ((zbb _).mp (by assumption)) h.1 | exact zcb ⟨(zba _).mp (by assumption), by omega, fun j h => hpre j (by omega) h⟩ | (refine zca fun h => ?_; have h2 := h.2.2 i hc2; clear h hst hpre hpr; simp only [List.any_eq_false] at h2; grind) | trace_state
          ·try simp [zba, zbb, zbe, zbc] at hc3
           all_goals
            refine zbm ?_
            refine zbr ?_
            have hk : o[i].toNat < l.length := by omega
            have hcm := zzx (l := l) (k := o[i]) hk
            have htm := zzy (l := l) (k := o[i]) hk
            refine AW_d rfl mix (by kernel_rfl) (by kernel_rfl) fun K hK => ?_
            simp (disch := omega)
            repeat' first | (exfalso; omega) | (refine znm [] true [] (zsh (stP l (o.take i)) l[o[i].toNat].fCmd (stP_sz _ _) (hm _ hk)) ?_ (fun st' hst => ?_) ?_; (focus (simp [List.range_succ, nmC]; done)); (focus (simp (disch := omega) [nmC, List.range_succ] at hst; simp (disch := omega) [hst, zbu, nmC, List.range_succ]; done)); simp (disch := omega)) | (refine ⟨fun _ => ?_, fun _ => ?_⟩) | (refine ⟨by omega, ?_⟩) | (simp (disch := omega)) | (intro _)
            all_goals (refine hK _ _ (by kernel_rfl) ?_; clear hK K)
            all_goals
             refine zbl ?_
             refine AW_x rfl rfl fun K hK => ?_
             simp (disch := omega)
             repeat' first | (refine ⟨by omega, ?_⟩) | (intro _)
             refine hK _ ?_; clear hK K
             refine zbk rfl (fun hc4 => ?_) (fun hc4 => ?_)
             ·try simp [zba, zbb, zbe, zbc] at hc4
              all_goals
               refine AW_x rfl rfl fun K hK => ?_
               simp (disch := omega)
               repeat' first | (exfalso; omega) | (refine ⟨fun _ => ?_, fun _ => ?_⟩) | (refine ⟨by omega, ?_⟩) | (simp (disch := omega)) | (intro _)
               all_goals (refine hK _ ?_; clear hK K)
               all_goals
                refine zbn (zcf [] [] (by simp [List.range_succ, zbd, zbi, zbf]) (by simp) ?_)
                simp (disch := omega)
                all_goals first | exact zca fun h => hc1 (by omega) | exact zca fun h => ((zbb _).mp (by assumption)) h.1 | exact zcb ⟨(zba _).mp (by assumption), by omega, fun j h => hpre j (by omega) h⟩ | (refine zca fun h => ?_; have h2 := h.2.2 i hc2; clear h hst hpre hpr; simp only [List.any_eq_false] at h2; grind) | trace_state
             ·try simp [zba, zbb, zbe, zbc] at hc4
              all_goals
               refine zbm ?_
               refine zbr ?_
               refine zcw rfl rfl fun K hK => ?_
               simp (disch := omega)
               repeat' first | (exfalso; omega) | (refine ⟨fun _ => ?_, fun _ => ?_⟩) | (refine ⟨by omega, ?_⟩) | (simp (disch := omega)) | (intro _)
               all_goals (refine hK _ ?_; clear hK K)
               all_goals
                refine zbr ?_
                refine zcw rfl rfl fun K hK => ?_
                simp (disch := omega)
                repeat' first | (refine ⟨by omega, ?_⟩) | (intro _)
                refine hK _ ?_; clear hK K
                refine ⟨_, LeS.kx [(96, 96), (500, 912), (502, 913)] [(0, .sl 11 (l.map DtCall.cells)), (1, .sl 1 (o.map cI)), (5, .ptr 96 0), (21, .sl 1 (o.map cI)), (22, (.g (.int .i64 ((o.length : Nat))))), (23, (.g (.int .i64 (((i + 1) : Nat)))))] [(96, .cells [.arr 500 0 (stP l (o.take (i + 1))).fCat.fSets.length, .arr 502 0 (stP l (o.take (i + 1))).fSaid.length]), (500, .own 2 ((stP l (o.take (i + 1))).fCat.fSets.map DtCSet.cells)), (502, .own 3 ((stP l (o.take (i + 1))).fSaid.map DtSaid.cells))] (by simp [KpR, renV2, renV, zbf, zbt, zbd, zbi]; first | omega | (rw [hst, hcm]; done) | (rw [hst, hcm]; rfl) | trace_state) (by simp [KpOX, renO, plO, cvO, renV, pl1, zbd, zbi, zbf]; first | rfl | exact ⟨rfl, rfl, rfl, rfl⟩ | exact ⟨⟨rfl, rfl⟩, rfl, rfl⟩ | (rw [hst, hcm]; simp; done) | trace_state) (by rfl) (by simp) (by simp) (by rfl) (by simp [formsX, List.range_succ, zbd, zbi]), _, ?_, i + 1, rfl, ?_, rfl⟩
                ·omega
                ·refine ⟨by omega, fun j hj => ?_⟩
                 by_cases e : j < i
                 ·exact hpre j e
                 ·obtain rfl : j = i := by omega
                  exact fun h => ⟨by omega, by omega, by grind, by simp_all, by rw [hcm, htm]; exact hc4⟩
      ·try simp [zba, zbb, zbe, zbc] at hc2
       all_goals
        have hil : i = o.length := by omega
        refine zb8 ?_
        refine zbr ?_
        refine AW_x rfl rfl fun K hK => ?_
        simp (disch := omega)
        repeat' first | (exfalso; omega) | (refine ⟨fun _ => ?_, fun _ => ?_⟩) | (refine ⟨by omega, ?_⟩) | (simp (disch := omega)) | (intro _)
        all_goals (refine hK _ ?_; clear hK K)
        all_goals
         refine zbn (zcf [] [] (by simp [List.range_succ, zbd, zbi, zbf]) (by simp) ?_)
         simp (disch := omega)
         all_goals first | exact zca fun h => hc1 (by omega) | exact zca fun h => ((zbb _).mp (by assumption)) h.1 | exact zcb ⟨(zba _).mp (by assumption), by omega, fun j h => hpre j (by omega) h⟩ | (refine zca fun h => ?_; have h2 := h.2.2 i hc2; clear h hst hpre hpr; simp only [List.any_eq_false] at h2; grind) | trace_state
def seenL (n : Nat) (p : List Int) : List (List AV) := (List.range n).map fun j : Nat => cB (decide ((j : Int) ∈ p))
theorem zz1 (n : Nat) (p : List Int) : (seenL n p).length = n := by simp [seenL]
theorem zqw (n : Nat) : seenL n [] = List.replicate n [.g (.bool false)] := by
 refine List.ext_getElem (by simp [seenL]) fun i h1 h2 => ?_
 simp [seenL, cB]
theorem zty (n : Nat) (p : List Int) (j : Nat) (h : j < n) : (seenL n p)[j]? = some (cB (decide ((j : Int) ∈ p))) := by simp [seenL, h]
theorem zqx (n : Nat) (p : List Int) (k : Int) (h0 : 0 ≤ k) : (seenL n p).set k.toNat (cB true) = seenL n (p ++ [k]) := by
 refine List.ext_getElem (by simp [seenL]) fun i h1 h2 => ?_
 rw [List.getElem_set]
 simp only [seenL, List.getElem_map, List.getElem_range]
 by_cases e : k.toNat = i
 ·rw [if_pos e]
  have : (i : Int) = k := by omega
  simp [this]
 ·rw [if_neg e]
  have : ¬ (i : Int) = k := by omega
  simp [this]
theorem zdv (n : Nat) (p : List Int) : scR (seenL n p) = true := zdy (fun j : Nat => cB (decide ((j : Int) ∈ p))) (fun _ => rfl) _
attribute [local simp] cB zz1
theorem specFits (l : List DtCall) (hs : szS DtCall.sz l ≤ 1048576) (o : List Int) (ho : o.length ≤ 1048576) : XCall Try.prog 34 [.sl 11 (l.map DtCall.cells), .sl 1 (o.map cI)] [] (.g (.bool (decB (CallsP l ∧ o.length = l.length ∧ FitsQ l o)))) [] [] := by
 have ⟨hl, hm⟩ := ztx l hs
 refine zb5 Try.func34 (by rfl) (by rfl) (by rw [Try.ntmps34]; exact Nat.le_of_ble_eq_true rfl) rfl (by simp) rfl rfl ?_
 rw [Try.ntmps34]
 refine zji   ?_
 refine AW_k [(0, _), (1, _)] ⟨rfl, rfl, trivial⟩ ?_
 refine AW_x rfl rfl fun K hK => ?_
 simp (disch := omega)
 repeat' first | (refine ⟨by omega, ?_⟩) | (intro _)
 refine hK _ ?_; clear hK K
 refine zbl ?_
 refine AW_x rfl rfl fun K hK => ?_
 simp (disch := omega)
 repeat' first | (exfalso; omega) | (refine zfs (zbh zcs zbp) (zln l hs) rfl ?_; simp (disch := omega)) | (refine zft (zln l hs) (by rfl) ?_ ?_; (focus (simp (disch := omega) [zbu]; done)); simp (disch := omega)) | (refine ⟨fun _ => ?_, fun _ => ?_⟩) | (refine ⟨by omega, ?_⟩) | (simp (disch := omega)) | (intro _)
 all_goals (refine hK _ ?_; clear hK K)
 all_goals
  refine zbk rfl (fun hc5 => ?_) (fun hc5 => ?_)
  ·try simp [zba, zbb, zbe, zbc] at hc5
   all_goals
    refine AW_x rfl rfl fun K hK => ?_
    simp (disch := omega)
    repeat' first | (exfalso; omega) | (refine ⟨fun _ => ?_, fun _ => ?_⟩) | (refine ⟨by omega, ?_⟩) | (simp (disch := omega)) | (intro _)
    all_goals (refine hK _ ?_; clear hK K)
    all_goals
     refine zbn (zcf [] [] (by simp [List.range_succ, zbd, zbi, zbf]) (by simp) ?_)
     simp (disch := omega)
     all_goals first | exact zca fun h => hc5 (by omega) | exact zca fun h => ((zbb _).mp (by assumption)) h.1 | exact zcb ⟨(zba _).mp (by assumption), by omega, fun j h => hpre j (by omega) h⟩ | exact zca fun h => (h.2.2 i hc6).2.2.1 hc7 | (refine zca fun h => ?_; have h2 := (h.2.2 i hc6).2.2.2.1 j hc8 (by assumption); rw [hlt] at h2; simp at h2; omega) | (refine zca fun h => ?_; have h2 := h.2.2 i hc6; omega) | (refine zca fun h => ?_; have h2 := (h.2.2 i hc6).2.2.2.2; rw [hcm, htm] at h2; contradiction) | trace_state
  ·try simp [zba, zbb, zbe, zbc] at hc5
   all_goals
    refine zbm ?_
    refine zbr ?_
    refine AW_x rfl rfl fun K hK => ?_
    simp (disch := omega)
    repeat' first | (exfalso; omega) | (refine ⟨fun _ => ?_, fun _ => ?_⟩) | (refine ⟨by omega, ?_⟩) | (simp (disch := omega)) | (intro _)
    all_goals (refine hK _ ?_; clear hK K)
    all_goals
     refine AW_x rfl rfl fun K hK => ?_
     simp (disch := omega)
     repeat' first | (refine ⟨by omega, ?_⟩) | (simp (disch := omega)) | (intro _)
     refine hK _ ?_; clear hK K
     refine zbl ?_
     refine AW_x rfl rfl fun K hK => ?_
     simp (disch := omega)
     repeat' first | (refine ⟨by omega, ?_⟩) | (intro _)
     refine hK _ ?_; clear hK K
     refine zbs ?_
     refine zb3 (fun mM sS => ∃ (i : Nat), mM = o.length - i ∧ (i ≤ o.length ∧ ∀ j, j < i → FitQ l o j) ∧ sS = { env := lkE [(0, .sl 11 (l.map DtCall.cells)), (1, .sl 1 (o.map cI)), (5, .arr 501 0 l.length), (6, .ptr 112 0), (7, (.g (.int .i64 ((i : Nat)))))], ob := lk [(112, .cells [.arr 500 0 (stP l (o.take i)).fCat.fSets.length, .arr 502 0 (stP l (o.take i)).fSaid.length]), (500, .own 2 ((stP l (o.take i)).fCat.fSets.map DtCSet.cells)), (502, .own 3 ((stP l (o.take i)).fSaid.map DtSaid.cells)), (501, .win 1 (seenL l.length (o.take i)))] }) ?_ ?_
     ·refine ⟨_, LeS.trans (LeS.znc (cs := [.g (.slice none 0 0), .g (.slice none 0 0)]) 500 2 112 0 (by simp [zbf, zbd, zbi, zbt]) (by simp [zbf, zbd, zbi, zbt, zdv]) (by rfl)) (LeS.trans (LeS.znc (cs := [.arr 500 0 0, .g (.slice none 0 0)]) 502 3 112 1 (by simp [zbf, zbd, zbi, zbt]) (by simp [zbf, zbd, zbi, zbt, zdv]) (by rfl)) (LeS.kx [(112, 112), (500, 500), (502, 502), (501, 400)] [(0, .sl 11 (l.map DtCall.cells)), (1, .sl 1 (o.map cI)), (5, .arr 501 0 l.length), (6, .ptr 112 0), (7, (.g (.int .i64 (((0) : Nat)))))] [(112, .cells [.arr 500 0 (stP l (o.take (0))).fCat.fSets.length, .arr 502 0 (stP l (o.take (0))).fSaid.length]), (500, .own 2 ((stP l (o.take (0))).fCat.fSets.map DtCSet.cells)), (502, .own 3 ((stP l (o.take (0))).fSaid.map DtSaid.cells)), (501, .win 1 (seenL l.length (o.take (0))))] (by simp [KpR, renV2, renV, zbf, zbt, zbd, zbi, zdv]; first | omega | (rw [hst, hcm]; done) | (rw [hst, hcm]; rfl) | trace_state) (by simp [KpOX, renO, plO, cvO, renV, pl1, zbd, zbi, zbf, zdv]; first | rfl | exact ⟨rfl, rfl, rfl, rfl, zqw _⟩ | (rw [hst, hcm]; simp; done) | trace_state) (by rfl) (by simp) (by simp) (by rfl) (by simp [formsX, List.range_succ, zbd, zbi]))), _, 0, rfl, ?_, rfl⟩
      ·simp
     ·rintro mM sS ⟨i, rfl, ⟨hi, hpre⟩, rfl⟩
      refine zbl ?_
      refine AW_x rfl rfl fun K hK => ?_
      simp (disch := omega)
      repeat' first | (refine ⟨by omega, ?_⟩) | (simp (disch := omega)) | (intro _)
      refine hK _ ?_; clear hK K
      refine zbk rfl (fun hc6 => ?_) (fun hc6 => ?_)
      ·try simp [zba, zbb, zbe, zbc] at hc6
       all_goals
        have hg : o[i]? = some o[i] := List.getElem?_eq_getElem (by omega)
        have hst := ztv l o i (by omega)
        have hsk : ∀ z : Int, 0 ≤ z → z < (l.length : Int) → (seenL l.length (o.take i))[z.toNat]? = some (cB (decide (z ∈ o.take i))) := fun z h0 h1 => by
         rw [zty _ _ _ (by omega), show ((z.toNat : Nat) : Int) = z by omega]
        have hts : o.take (i + 1) = o.take i ++ [o[i]] := List.take_succ_eq_append_getElem (by omega)
        refine zbm ?_
        refine zbr ?_
        refine zbl ?_
        refine zbs ?_
        refine AW_x rfl rfl fun K hK => ?_
        simp (disch := omega) [hsk]
        repeat' first | (exfalso; omega) | (refine ⟨fun _ => ?_, fun _ => ?_⟩) | (refine ⟨by omega, ?_⟩) | (simp (disch := omega) [hsk]) | (intro _)
        all_goals (refine hK _ ?_; clear hK K)
        all_goals
         refine zbl ?_
         refine AW_x rfl rfl fun K hK => ?_
         simp (disch := omega) [hsk]
         repeat' first | (exfalso; omega) | (refine ⟨fun _ => ?_, fun _ => ?_⟩) | (refine ⟨by omega, ?_⟩) | (simp (disch := omega) [hsk]) | (intro _)
         all_goals (refine hK _ ?_; clear hK K)
         all_goals
          refine zbk rfl (fun hc7 => ?_) (fun hc7 => ?_)
          ·try simp [zba, zbb, zbe, zbc] at hc7
           all_goals
            refine AW_x rfl rfl fun K hK => ?_
            simp (disch := omega) [hsk]
            repeat' first | (exfalso; omega) | (refine ⟨fun _ => ?_, fun _ => ?_⟩) | (refine ⟨by omega, ?_⟩) | (simp (disch := omega) [hsk]) | (intro _)
            all_goals (refine hK _ ?_; clear hK K)
            all_goals
             refine zbn (zcf [] [] (by simp [List.range_succ, zbd, zbi, zbf]) (by simp) ?_)
             simp (disch := omega) [hsk]
             all_goals first | exact zca fun h => hc5 (by omega) | exact zca fun h => ((zbb _).mp (by assumption)) h.1 | exact zcb ⟨(zba _).mp (by assumption), by omega, fun j h => hpre j (by omega) h⟩ | exact zca fun h => (h.2.2 i hc6).2.2.1 hc7 | (refine zca fun h => ?_; have h2 := (h.2.2 i hc6).2.2.2.1 j hc8 (by assumption); rw [hlt] at h2; simp at h2; omega) | (refine zca fun h => ?_; have h2 := h.2.2 i hc6; omega) | (refine zca fun h => ?_; have h2 := (h.2.2 i hc6).2.2.2.2; rw [hcm, htm] at h2; contradiction) | trace_state
          ·try simp [zba, zbb, zbe, zbc] at hc7
           all_goals
            refine zbm ?_
            refine zbr ?_
            have hk : o[i].toNat < l.length := by omega
            have hcm := zzx (l := l) (k := o[i]) hk
            have htm := zzy (l := l) (k := o[i]) hk
            refine AW_x rfl rfl fun K hK => ?_
            simp (disch := omega) [hsk]
            repeat' first | (exfalso; omega) | (refine ⟨fun _ => ?_, fun _ => ?_⟩) | (refine ⟨by omega, ?_⟩) | (simp (disch := omega) [hsk]) | (intro _)
            all_goals (refine hK _ ?_; clear hK K)
            all_goals
             refine zbl ?_
             refine AW_x rfl rfl fun K hK => ?_
             simp (disch := omega) [hsk]
             repeat' first | (refine ⟨by omega, ?_⟩) | (intro _)
             refine hK _ ?_; clear hK K
             refine zbs ?_
             refine zb3 (fun mM sS => ∃ (j : Nat), mM = l.length - j ∧ (j ≤ l.length ∧ ∀ m : Nat, m < j → (m : Int) ∉ o.take (i + 1) → lateB l m o[i] = false) ∧ sS = { env := lkE [(0, .sl 11 (l.map DtCall.cells)), (1, .sl 1 (o.map cI)), (5, .arr 501 0 l.length), (6, .ptr 112 0), (7, (.g (.int .i64 ((i : Nat))))), (8, (.g (.int .i64 (o[i])))), (9, (.g (.int .i64 ((j : Nat)))))], ob := lk [(112, .cells [.arr 500 0 (stP l (o.take i)).fCat.fSets.length, .arr 502 0 (stP l (o.take i)).fSaid.length]), (500, .own 2 ((stP l (o.take i)).fCat.fSets.map DtCSet.cells)), (502, .own 3 ((stP l (o.take i)).fSaid.map DtSaid.cells)), (501, .win 1 (seenL l.length (o.take (i + 1))))] }) ?_ ?_
             ·refine ⟨_, LeS.kx [(112, 112), (500, 500), (502, 502), (501, 501)] [(0, .sl 11 (l.map DtCall.cells)), (1, .sl 1 (o.map cI)), (5, .arr 501 0 l.length), (6, .ptr 112 0), (7, (.g (.int .i64 ((i : Nat))))), (8, (.g (.int .i64 (o[i])))), (9, (.g (.int .i64 (((0) : Nat)))))] [(112, .cells [.arr 500 0 (stP l (o.take i)).fCat.fSets.length, .arr 502 0 (stP l (o.take i)).fSaid.length]), (500, .own 2 ((stP l (o.take i)).fCat.fSets.map DtCSet.cells)), (502, .own 3 ((stP l (o.take i)).fSaid.map DtSaid.cells)), (501, .win 1 (seenL l.length (o.take (i + 1))))] (by simp [KpR, renV2, renV, zbf, zbt, zbd, zbi, zdv]; try rfl) (by simp [KpOX, renO, plO, cvO, renV, pl1, zbd, zbi, zbf, zdv]; first | rfl | (rw [hts]; exact zqx _ _ _ (by omega)) | trace_state) (by rfl) (by simp) (by simp) (by rfl) (by simp [formsX, List.range_succ, zbd, zbi]), _, 0, rfl, ?_, rfl⟩
              ·exact ⟨by omega, fun m hm => by omega⟩
             ·rintro mM sS ⟨j, rfl, ⟨hj, hpj⟩, rfl⟩
              refine zbl ?_
              refine AW_x rfl rfl fun K hK => ?_
              simp (disch := omega) [hsk]
              repeat' first | (refine ⟨by omega, ?_⟩) | (simp (disch := omega) [hsk]) | (intro _)
              refine hK _ ?_; clear hK K
              refine zbk rfl (fun hc8 => ?_) (fun hc8 => ?_)
              ·try simp [zba, zbb, zbe, zbc] at hc8
               all_goals
                have hgj : l[j]? = some l[j] := List.getElem?_eq_getElem (by omega)
                have hlt := ztu (l := l) (k := (j : Int)) (j := o[i]) (by omega) hk
                simp only [Int.toNat_natCast] at hlt
                have hsj := zty l.length (o.take (i + 1)) j (by omega)
                refine zbm ?_
                refine zbr ?_
                refine zbl ?_
                refine zbs ?_
                refine AW_d rfl mix (by kernel_rfl) (by kernel_rfl) fun K hK => ?_
                simp (disch := omega) [hsk, hsj]
                repeat' first | (exfalso; omega) | (refine ⟨fun _ => ?_, fun _ => ?_⟩) | (refine ⟨by omega, ?_⟩) | (simp (disch := omega) [hsk, hsj]) | (intro _)
                all_goals (refine hK _ _ (by kernel_rfl) ?_; clear hK K)
                all_goals
                 refine zbk rfl (fun hc9 => ?_) (fun hc9 => ?_)
                 ·try simp [zba, zbb, zbe, zbc] at hc9
                  all_goals
                   refine AW_x rfl rfl fun K hK => ?_
                   simp (disch := omega) [hsk, hsj]
                   repeat' first | (exfalso; omega) | (refine ⟨fun _ => ?_, fun _ => ?_⟩) | (refine ⟨by omega, ?_⟩) | (simp (disch := omega) [hsk, hsj]) | (intro _)
                   all_goals (refine hK _ ?_; clear hK K)
                   all_goals
                    refine zbn (zcf [] [] (by simp [List.range_succ, zbd, zbi, zbf]) (by simp) ?_)
                    simp (disch := omega) [hsk, hsj]
                    all_goals first | exact zca fun h => hc5 (by omega) | exact zca fun h => ((zbb _).mp (by assumption)) h.1 | exact zcb ⟨(zba _).mp (by assumption), by omega, fun j h => hpre j (by omega) h⟩ | exact zca fun h => (h.2.2 i hc6).2.2.1 hc7 | (refine zca fun h => ?_; have h2 := (h.2.2 i hc6).2.2.2.1 j hc8 (by assumption); rw [hlt] at h2; simp at h2; omega) | (refine zca fun h => ?_; have h2 := h.2.2 i hc6; omega) | (refine zca fun h => ?_; have h2 := (h.2.2 i hc6).2.2.2.2; rw [hcm, htm] at h2; contradiction) | trace_state
                 ·try simp [zba, zbb, zbe, zbc] at hc9
                  all_goals
                   refine zbm ?_
                   refine zbr ?_
                   refine zcw rfl rfl fun K hK => ?_
                   simp (disch := omega) [hsk, hsj]
                   repeat' first | (exfalso; omega) | (refine ⟨fun _ => ?_, fun _ => ?_⟩) | (refine ⟨by omega, ?_⟩) | (simp (disch := omega) [hsk, hsj]) | (intro _)
                   all_goals (refine hK _ ?_; clear hK K)
                   all_goals
                    refine ⟨_, LeS.kx [(112, 112), (500, 500), (502, 502), (501, 501)] [(0, .sl 11 (l.map DtCall.cells)), (1, .sl 1 (o.map cI)), (5, .arr 501 0 l.length), (6, .ptr 112 0), (7, (.g (.int .i64 ((i : Nat))))), (8, (.g (.int .i64 (o[i])))), (9, (.g (.int .i64 (((j + 1) : Nat)))))] [(112, .cells [.arr 500 0 (stP l (o.take i)).fCat.fSets.length, .arr 502 0 (stP l (o.take i)).fSaid.length]), (500, .own 2 ((stP l (o.take i)).fCat.fSets.map DtCSet.cells)), (502, .own 3 ((stP l (o.take i)).fSaid.map DtSaid.cells)), (501, .win 1 (seenL l.length (o.take (i + 1))))] (by simp [KpR, renV2, renV, zbf, zbt, zbd, zbi, zdv]; try rfl) (by simp [KpOX, renO, plO, cvO, renV, pl1, zbd, zbi, zbf, zdv]; first | rfl | (rw [hts]; exact zqx _ _ _ (by omega)) | trace_state) (by rfl) (by simp) (by simp) (by rfl) (by simp [formsX, List.range_succ, zbd, zbi]), _, ?_, j + 1, rfl, ?_, rfl⟩
                    ·omega
                    ·refine ⟨by omega, fun m hm hn => ?_⟩
                     by_cases e : m < j
                     ·exact hpj m e hn
                     ·obtain rfl : m = j := by omega
                      first | (rw [hlt]; exact decide_eq_false (by omega)) | exact absurd (by assumption) hn | trace_state
              ·try simp [zba, zbb, zbe, zbc] at hc8
               all_goals
                refine zb8 ?_
                refine zbr ?_
                refine AW_d rfl mix (by kernel_rfl) (by kernel_rfl) fun K hK => ?_
                simp (disch := omega) [hsk]
                repeat' first | (exfalso; omega) | (refine znm [] true [] (zsi (stP l (o.take i)) l[o[i].toNat].fCmd (stP_sz _ _) (hm _ hk)) ?_ (fun st' hst => ?_) ?_; (focus (simp [List.range_succ, nmC]; done)); (focus (simp (disch := omega) [hsk, nmC, List.range_succ] at hst; simp (disch := omega) [hsk, hst, zbu, nmC, List.range_succ]; done)); simp (disch := omega) [hsk]) | (refine ⟨fun _ => ?_, fun _ => ?_⟩) | (refine ⟨by omega, ?_⟩) | (simp (disch := omega) [hsk]) | (intro _)
                all_goals (refine hK _ _ (by kernel_rfl) ?_; clear hK K)
                all_goals
                 refine zbl ?_
                 refine AW_x rfl rfl fun K hK => ?_
                 simp (disch := omega) [hsk]
                 repeat' first | (refine ⟨by omega, ?_⟩) | (intro _)
                 refine hK _ ?_; clear hK K
                 refine zbk rfl (fun hc10 => ?_) (fun hc10 => ?_)
                 ·try simp [zba, zbb, zbe, zbc] at hc10
                  all_goals
                   refine AW_x rfl rfl fun K hK => ?_
                   simp (disch := omega) [hsk]
                   repeat' first | (exfalso; omega) | (refine ⟨fun _ => ?_, fun _ => ?_⟩) | (refine ⟨by omega, ?_⟩) | (simp (disch := omega) [hsk]) | (intro _)
                   all_goals (refine hK _ ?_; clear hK K)
                   all_goals
                    refine zbn (zcf [] [] (by simp [List.range_succ, zbd, zbi, zbf]) (by simp) ?_)
                    simp (disch := omega) [hsk]
                    all_goals first | exact zca fun h => hc5 (by omega) | exact zca fun h => ((zbb _).mp (by assumption)) h.1 | exact zcb ⟨(zba _).mp (by assumption), by omega, fun j h => hpre j (by omega) h⟩ | exact zca fun h => (h.2.2 i hc6).2.2.1 hc7 | (refine zca fun h => ?_; have h2 := (h.2.2 i hc6).2.2.2.1 j hc8 (by assumption); rw [hlt] at h2; simp at h2; omega) | (refine zca fun h => ?_; have h2 := h.2.2 i hc6; omega) | (refine zca fun h => ?_; have h2 := (h.2.2 i hc6).2.2.2.2; rw [hcm, htm] at h2; contradiction) | trace_state
                 ·try simp [zba, zbb, zbe, zbc] at hc10
                  all_goals
                   refine zbm ?_
                   refine zbr ?_
                   refine zcw rfl rfl fun K hK => ?_
                   simp (disch := omega) [hsk]
                   repeat' first | (exfalso; omega) | (refine ⟨fun _ => ?_, fun _ => ?_⟩) | (refine ⟨by omega, ?_⟩) | (simp (disch := omega) [hsk]) | (intro _)
                   all_goals (refine hK _ ?_; clear hK K)
                   all_goals
                    refine zbr ?_
                    refine zcw rfl rfl fun K hK => ?_
                    simp (disch := omega) [hsk]
                    repeat' first | (refine ⟨by omega, ?_⟩) | (intro _)
                    refine hK _ ?_; clear hK K
                    refine ⟨_, LeS.kx [(112, 112), (500, 1360), (502, 1361), (501, 501)] [(0, .sl 11 (l.map DtCall.cells)), (1, .sl 1 (o.map cI)), (5, .arr 501 0 l.length), (6, .ptr 112 0), (7, (.g (.int .i64 (((i + 1) : Nat)))))] [(112, .cells [.arr 500 0 (stP l (o.take (i + 1))).fCat.fSets.length, .arr 502 0 (stP l (o.take (i + 1))).fSaid.length]), (500, .own 2 ((stP l (o.take (i + 1))).fCat.fSets.map DtCSet.cells)), (502, .own 3 ((stP l (o.take (i + 1))).fSaid.map DtSaid.cells)), (501, .win 1 (seenL l.length (o.take (i + 1))))] (by simp [KpR, renV2, renV, zbf, zbt, zbd, zbi, zdv]; first | omega | (rw [hst, hcm]; done) | (rw [hst, hcm]; rfl) | trace_state) (by simp [KpOX, renO, plO, cvO, renV, pl1, zbd, zbi, zbf, zdv]; first | rfl | exact ⟨rfl, rfl, rfl, rfl, zqw _⟩ | (rw [hst, hcm]; simp; done) | trace_state) (by rfl) (by simp) (by simp) (by rfl) (by simp [formsX, List.range_succ, zbd, zbi]), _, ?_, i + 1, rfl, ?_, rfl⟩
                    ·omega
                    ·refine ⟨by omega, fun a ha => ?_⟩
                     by_cases e : a < i
                     ·exact hpre a e
                     ·obtain rfl : a = i := by omega
                      exact fun h => ⟨by omega, by omega, hc7, fun m hm hn => hpj m (by omega) hn, by rw [hcm, htm]; assumption⟩
      ·try simp [zba, zbb, zbe, zbc] at hc6
       all_goals
        have hil : i = o.length := by omega
        refine zb8 ?_
        refine zbr ?_
        refine AW_x rfl rfl fun K hK => ?_
        simp (disch := omega)
        repeat' first | (exfalso; omega) | (refine ⟨fun _ => ?_, fun _ => ?_⟩) | (refine ⟨by omega, ?_⟩) | (simp (disch := omega)) | (intro _)
        all_goals (refine hK _ ?_; clear hK K)
        all_goals
         refine zbn (zcf [] [] (by simp [List.range_succ, zbd, zbi, zbf]) (by simp) ?_)
         simp (disch := omega)
         all_goals first | exact zca fun h => hc5 (by omega) | exact zca fun h => ((zbb _).mp (by assumption)) h.1 | exact zcb ⟨(zba _).mp (by assumption), by omega, fun j h => hpre j (by omega) h⟩ | exact zca fun h => (h.2.2 i hc6).2.2.1 hc7 | (refine zca fun h => ?_; have h2 := (h.2.2 i hc6).2.2.2.1 j hc8 (by assumption); rw [hlt] at h2; simp at h2; omega) | (refine zca fun h => ?_; have h2 := h.2.2 i hc6; omega) | (refine zca fun h => ?_; have h2 := (h.2.2 i hc6).2.2.2.2; rw [hcm, htm] at h2; contradiction) | trace_state
end Go.Proofs.Ytmheohnbkaoipaa.Vs

import Derived.Test.YtmheohnbkaoipaaGreatSStQ
open Go Go.Proofs Go.Proofs.YtmheohnbkaoipaaGreat.Vs
namespace Go.Proofs.YtmheohnbkaoipaaGreat.Vs
set_option linter.all false
set_option linter.unusedSimpArgs false
set_option linter.unusedVariables false
set_option maxRecDepth 100000
set_option maxHeartbeats 1000000
theorem putG_s (x : DtSaid) (p : Bool) (l : List DtSaid) (i : Nat) (h : i < l.length) : putG x p (l.drop i) = (if p = false ∧ x.fClient ≤ l[i].fClient then [x] else []) ++ ((if l[i].fClient = x.fClient then [] else [l[i]]) ++ putG x (p || decide (x.fClient ≤ l[i].fClient)) (l.drop (i + 1))) := by
 rw [List.drop_eq_getElem_cons h, putG]
attribute [local simp] DtSaid.cells zbp and_assoc zc5
theorem l16PutX (l : List DtSaid) (hl : l.length ≤ 1048576) (x : DtSaid) : XCall Tryz.prog 22 [.sl 3 (l.map DtSaid.cells), .agg (DtSaid.cells x)] [] (.arr 16 0 (putG x false l).length) [] [.own 3 ((putG x false l).map DtSaid.cells)] := by
 refine zbx Tryz.func22 (by rfl) (by rfl) (by rw [Tryz.ntmps22]; exact Nat.le_of_ble_eq_true rfl) rfl (by simp) rfl rfl ?_
 rw [Tryz.ntmps22]
 refine zf1   ?_
 refine AW_k [(0, _), (1, _)] ⟨rfl, rfl, trivial⟩ ?_
 refine AW_x rfl rfl fun K hK => ?_
 simp (disch := omega)
 repeat' first | (refine ⟨by omega, ?_⟩) | (intro _)
 refine hK _ ?_; clear hK K
 refine AW_x rfl rfl fun K hK => ?_
 simp (disch := omega)
 repeat' first | (refine ⟨by omega, ?_⟩) | (simp (disch := omega)) | (intro _)
 refine hK _ ?_; clear hK K
 refine AW_x rfl rfl fun K hK => ?_
 simp (disch := omega)
 repeat' first | (refine ⟨by omega, ?_⟩) | (intro _)
 refine hK _ ?_; clear hK K
 refine zbm ?_
 refine AW_x rfl rfl fun K hK => ?_
 simp (disch := omega)
 repeat' first | (refine ⟨by omega, ?_⟩) | (intro _)
 refine hK _ ?_; clear hK K
 refine zbt ?_
 refine zb5 (fun mM sS => ∃ (i : Nat) (o : List DtSaid) (p : Bool), mM = l.length - i ∧ (i ≤ l.length ∧ o ++ putG x p (l.drop i) = putG x false l ∧ o.length ≤ 2 * i) ∧ sS = { env := lkE [(0, .sl 3 (l.map DtSaid.cells)), (3, .ptr 64 0), (5, .arr 904 0 o.length), (6, (.g (.bool (p)))), (7, (.g (.int .i64 ((i : Nat)))))], ob := lk [(64, .cells (DtSaid.cells x)), (904, .win 3 (o.map DtSaid.cells))] }) ?_ ?_
 ·refine ⟨_, LeS.kx [(64, 64), (904, 144)] [(0, .sl 3 (l.map DtSaid.cells)), (3, .ptr 64 0), (5, .arr 904 0 ([]).length), (6, (.g (.bool ((false))))), (7, (.g (.int .i64 (((0) : Nat)))))] [(64, .cells (DtSaid.cells x)), (904, .win 3 (([]).map DtSaid.cells))] (by simp [KpR, renV2, renV, zbe, zbv, zbc, zbj, DtSaid.cells, zc5]; first | (simp; done) | omega | trace_state) (by simp [KpOX, renO, plO, cvO, renV, pl1, zbc, zbj, zbe, DtSaid.cells, zc5]; first | rfl | (simp [DtSaid.cells]; done) | (rw [zfd]; simp [DtSaid.cells, zc5]; done) | trace_state) (by rfl) (by simp) (by simp) (by rfl) (by simp [formsX, List.range_succ, zbc, zbj]), _, 0, [], false, rfl, ?_, rfl⟩
  ·exact ⟨by omega, by simp, by simp⟩
 ·rintro mM sS ⟨i, o, p, rfl, ⟨hi, hpo, hol⟩, rfl⟩
  refine zbm ?_
  refine AW_x rfl rfl fun K hK => ?_
  simp (disch := omega)
  repeat' first | (refine ⟨by omega, ?_⟩) | (simp (disch := omega)) | (intro _)
  refine hK _ ?_; clear hK K
  refine zbl rfl (fun hc1 => ?_) (fun hc1 => ?_)
  ·try simp [zba, zbb, zbf, zbd] at hc1
   all_goals
    have hg : l[i]? = some l[i] := List.getElem?_eq_getElem (by omega)
    have hps := putG_s x p l i (by omega)
    refine zbn ?_
    refine zbq ?_
    refine zbm ?_
    refine zbt ?_
    refine zbm ?_
    refine AW_d rfl mix (by kernel_rfl) (by kernel_rfl) fun K hK => ?_
    simp (disch := omega)
    repeat' first | (exfalso; omega) | (refine ⟨fun _ => ?_, fun _ => ?_⟩) | (refine ⟨by omega, ?_⟩) | (simp (disch := omega)) | (intro _)
    all_goals (refine hK _ _ (by kernel_rfl) ?_; clear hK K)
    all_goals
     refine zbl rfl (fun hc2 => ?_) (fun hc2 => ?_)
     ·try simp [zba, zbb, zbf, zbd] at hc2
      all_goals
       refine AW_x rfl rfl fun K hK => ?_
       simp (disch := omega)
       repeat' first | (exfalso; omega) | (refine ⟨fun _ => ?_, fun _ => ?_⟩) | (refine ⟨by omega, ?_⟩) | (simp (disch := omega)) | (intro _)
       all_goals (refine hK _ ?_; clear hK K)
       all_goals
        refine zcr rfl rfl fun K hK => ?_
        simp (disch := omega)
        repeat' first | (refine ⟨by omega, ?_⟩) | (intro _)
        refine hK _ ?_; clear hK K
        refine zbq ?_
        refine AW_d rfl mix (by kernel_rfl) (by kernel_rfl) fun K hK => ?_
        simp (disch := omega)
        repeat' first | (refine ⟨by omega, ?_⟩) | (intro _)
        refine hK _ _ (by kernel_rfl) ?_; clear hK K
        refine zbl rfl (fun hc3 => ?_) (fun hc3 => ?_)
        ·try simp [zba, zbb, zbf, zbd] at hc3
         all_goals
          refine zcr rfl rfl fun K hK => ?_
          simp (disch := omega)
          repeat' first | (exfalso; omega) | (refine ⟨fun _ => ?_, fun _ => ?_⟩) | (refine ⟨by omega, ?_⟩) | (simp (disch := omega)) | (intro _)
          all_goals (refine hK _ ?_; clear hK K)
          all_goals
           refine zbq ?_
           refine zcr rfl rfl fun K hK => ?_
           simp (disch := omega)
           repeat' first | (refine ⟨by omega, ?_⟩) | (intro _)
           refine hK _ ?_; clear hK K
           refine ⟨_, LeS.kx [(64, 64), (904, 736)] [(0, .sl 3 (l.map DtSaid.cells)), (3, .ptr 64 0), (5, .arr 904 0 (o ++ [x] ++ [l[i]]).length), (6, (.g (.bool ((true))))), (7, (.g (.int .i64 (((i + 1) : Nat)))))] [(64, .cells (DtSaid.cells x)), (904, .win 3 ((o ++ [x] ++ [l[i]]).map DtSaid.cells))] (by simp [KpR, renV2, renV, zbe, zbv, zbc, zbj, DtSaid.cells, zc5]; first | (simp; done) | omega | trace_state) (by simp [KpOX, renO, plO, cvO, renV, pl1, zbc, zbj, zbe, DtSaid.cells, zc5]; first | rfl | (simp [DtSaid.cells]; done) | (rw [zfd]; simp [DtSaid.cells, zc5]; done) | trace_state) (by rfl) (by simp) (by simp) (by rfl) (by simp [formsX, List.range_succ, zbc, zbj]), _, ?_, i + 1, o ++ [x] ++ [l[i]], true, rfl, ?_, rfl⟩
           ·omega
           ·refine ⟨by omega, ?_, by (try simp); omega⟩
            rw [← hpo, hps]
            clear hpo hps hg
            first | (simp_all; done) | (have hd : x.fClient ≤ l[i].fClient := (by omega); simp_all; done) | (rw [if_neg (by omega), decide_eq_false (p := x.fClient ≤ l[i].fClient) (by omega), Bool.or_false, if_neg (by omega)]; simp; done) | trace_state
        ·try simp [zba, zbb, zbf, zbd] at hc3
         all_goals
          refine zbn ?_
          refine zbq ?_
          refine zcr rfl rfl fun K hK => ?_
          simp (disch := omega)
          repeat' first | (exfalso; omega) | (refine ⟨fun _ => ?_, fun _ => ?_⟩) | (refine ⟨by omega, ?_⟩) | (simp (disch := omega)) | (intro _)
          all_goals (refine hK _ ?_; clear hK K)
          all_goals
           refine ⟨_, LeS.kx [(64, 64), (904, 496)] [(0, .sl 3 (l.map DtSaid.cells)), (3, .ptr 64 0), (5, .arr 904 0 (o ++ [x]).length), (6, (.g (.bool ((true))))), (7, (.g (.int .i64 (((i + 1) : Nat)))))] [(64, .cells (DtSaid.cells x)), (904, .win 3 ((o ++ [x]).map DtSaid.cells))] (by simp [KpR, renV2, renV, zbe, zbv, zbc, zbj, DtSaid.cells, zc5]; first | (simp; done) | omega | trace_state) (by simp [KpOX, renO, plO, cvO, renV, pl1, zbc, zbj, zbe, DtSaid.cells, zc5]; first | rfl | (simp [DtSaid.cells]; done) | (rw [zfd]; simp [DtSaid.cells, zc5]; done) | trace_state) (by rfl) (by simp) (by simp) (by rfl) (by simp [formsX, List.range_succ, zbc, zbj]), _, ?_, i + 1, o ++ [x], true, rfl, ?_, rfl⟩
           ·omega
           ·refine ⟨by omega, ?_, by (try simp); omega⟩
            rw [← hpo, hps]
            clear hpo hps hg
            first | (simp_all; done) | (have hd : x.fClient ≤ l[i].fClient := (by omega); simp_all; done) | (rw [if_neg (by omega), decide_eq_false (p := x.fClient ≤ l[i].fClient) (by omega), Bool.or_false, if_neg (by omega)]; simp; done) | trace_state
     ·try simp [zba, zbb, zbf, zbd] at hc2
      all_goals
       refine zbn ?_
       refine zbq ?_
       refine AW_d rfl mix (by kernel_rfl) (by kernel_rfl) fun K hK => ?_
       simp (disch := omega)
       repeat' first | (exfalso; omega) | (refine ⟨fun _ => ?_, fun _ => ?_⟩) | (refine ⟨by omega, ?_⟩) | (simp (disch := omega)) | (intro _)
       all_goals (refine hK _ _ (by kernel_rfl) ?_; clear hK K)
       all_goals
        refine zbl rfl (fun hc4 => ?_) (fun hc4 => ?_)
        ·try simp [zba, zbb, zbf, zbd] at hc4
         all_goals
          refine zcr rfl rfl fun K hK => ?_
          simp (disch := omega)
          repeat' first | (exfalso; omega) | (refine ⟨fun _ => ?_, fun _ => ?_⟩) | (refine ⟨by omega, ?_⟩) | (simp (disch := omega)) | (intro _)
          all_goals (refine hK _ ?_; clear hK K)
          all_goals
           refine zbq ?_
           refine zcr rfl rfl fun K hK => ?_
           simp (disch := omega)
           repeat' first | (refine ⟨by omega, ?_⟩) | (intro _)
           refine hK _ ?_; clear hK K
           refine ⟨_, LeS.kx [(64, 64), (904, 736)] [(0, .sl 3 (l.map DtSaid.cells)), (3, .ptr 64 0), (5, .arr 904 0 (o ++ [l[i]]).length), (6, (.g (.bool ((p))))), (7, (.g (.int .i64 (((i + 1) : Nat)))))] [(64, .cells (DtSaid.cells x)), (904, .win 3 ((o ++ [l[i]]).map DtSaid.cells))] (by simp [KpR, renV2, renV, zbe, zbv, zbc, zbj, DtSaid.cells, zc5]; first | (simp; done) | omega | trace_state) (by simp [KpOX, renO, plO, cvO, renV, pl1, zbc, zbj, zbe, DtSaid.cells, zc5]; first | rfl | (simp [DtSaid.cells]; done) | (rw [zfd]; simp [DtSaid.cells, zc5]; done) | trace_state) (by rfl) (by simp) (by simp) (by rfl) (by simp [formsX, List.range_succ, zbc, zbj]), _, ?_, i + 1, o ++ [l[i]], p, rfl, ?_, rfl⟩
           ·omega
           ·refine ⟨by omega, ?_, by (try simp); omega⟩
            rw [← hpo, hps]
            clear hpo hps hg
            first | (simp_all; done) | (have hd : x.fClient ≤ l[i].fClient := (by omega); simp_all; done) | (rw [if_neg (by omega), decide_eq_false (p := x.fClient ≤ l[i].fClient) (by omega), Bool.or_false, if_neg (by omega)]; simp; done) | trace_state
        ·try simp [zba, zbb, zbf, zbd] at hc4
         all_goals
          refine zbn ?_
          refine zbq ?_
          refine zcr rfl rfl fun K hK => ?_
          simp (disch := omega)
          repeat' first | (exfalso; omega) | (refine ⟨fun _ => ?_, fun _ => ?_⟩) | (refine ⟨by omega, ?_⟩) | (simp (disch := omega)) | (intro _)
          all_goals (refine hK _ ?_; clear hK K)
          all_goals
           refine ⟨_, LeS.kx [(64, 64), (904, 904)] [(0, .sl 3 (l.map DtSaid.cells)), (3, .ptr 64 0), (5, .arr 904 0 (o).length), (6, (.g (.bool ((p))))), (7, (.g (.int .i64 (((i + 1) : Nat)))))] [(64, .cells (DtSaid.cells x)), (904, .win 3 ((o).map DtSaid.cells))] (by simp [KpR, renV2, renV, zbe, zbv, zbc, zbj, DtSaid.cells, zc5]; first | (simp; done) | omega | trace_state) (by simp [KpOX, renO, plO, cvO, renV, pl1, zbc, zbj, zbe, DtSaid.cells, zc5]; first | rfl | (simp [DtSaid.cells]; done) | (rw [zfd]; simp [DtSaid.cells, zc5]; done) | trace_state) (by rfl) (by simp) (by simp) (by rfl) (by simp [formsX, List.range_succ, zbc, zbj]), _, ?_, i + 1, o, p, rfl, ?_, rfl⟩
           ·omega
           ·refine ⟨by omega, ?_, by (try simp); omega⟩
            rw [← hpo, hps]
            clear hpo hps hg
            first | (simp_all; done) | (have hd : x.fClient ≤ l[i].fClient := (by omega); simp_all; done) | (rw [if_neg (by omega), decide_eq_false (p := x.fClient ≤ l[i].fClient) (by omega), Bool.or_false, if_neg (by omega)]; simp; done) | trace_state
  ·try simp [zba, zbb, zbf, zbd] at hc1
   all_goals
    have hil : i = l.length := by omega
    refine zb7 ?_
    refine zbq ?_
    refine zbm ?_
    refine AW_x rfl rfl fun K hK => ?_
    simp (disch := omega)
    repeat' first | (exfalso; omega) | (refine ⟨fun _ => ?_, fun _ => ?_⟩) | (refine ⟨by omega, ?_⟩) | (simp (disch := omega)) | (intro _)
    all_goals (refine hK _ ?_; clear hK K)
    all_goals
     refine zbl rfl (fun hc5 => ?_) (fun hc5 => ?_)
     ·try simp [zba, zbb, zbf, zbd] at hc5
      all_goals
       refine zcr rfl rfl fun K hK => ?_
       simp (disch := omega)
       repeat' first | (exfalso; omega) | (refine ⟨fun _ => ?_, fun _ => ?_⟩) | (refine ⟨by omega, ?_⟩) | (simp (disch := omega)) | (intro _)
       all_goals (refine hK _ ?_; clear hK K)
       all_goals
        refine zbq ?_
        refine AW_x rfl rfl fun K hK => ?_
        simp (disch := omega)
        repeat' first | (refine ⟨by omega, ?_⟩) | (intro _)
        refine hK _ ?_; clear hK K
        refine zbo (zcc [832] [] (by simp [List.range_succ, zbc, zbj, zbe]) (by simp) ?_)
        simp (disch := omega)
        all_goals first | (subst hil; rw [List.drop_length, putG, if_neg (by simp [hc5])] at hpo; rw [← hpo]; simp [DtSaid.cells]; done) | (subst hil; rw [List.drop_length, putG, if_pos hc5, List.append_nil] at hpo; rw [← hpo]; exact ⟨rfl, rfl⟩) | trace_state
     ·try simp [zba, zbb, zbf, zbd] at hc5
      all_goals
       refine zbn ?_
       refine zbq ?_
       refine AW_x rfl rfl fun K hK => ?_
       simp (disch := omega)
       repeat' first | (exfalso; omega) | (refine ⟨fun _ => ?_, fun _ => ?_⟩) | (refine ⟨by omega, ?_⟩) | (simp (disch := omega)) | (intro _)
       all_goals (refine hK _ ?_; clear hK K)
       all_goals
        refine zbo (zcc [904] [] (by simp [List.range_succ, zbc, zbj, zbe]) (by simp) ?_)
        simp (disch := omega)
        all_goals first | (subst hil; rw [List.drop_length, putG, if_neg (by simp [hc5])] at hpo; rw [← hpo]; simp [DtSaid.cells]; done) | (subst hil; rw [List.drop_length, putG, if_pos hc5, List.append_nil] at hpo; rw [← hpo]; exact ⟨rfl, rfl⟩) | trace_state
end Go.Proofs.YtmheohnbkaoipaaGreat.Vs

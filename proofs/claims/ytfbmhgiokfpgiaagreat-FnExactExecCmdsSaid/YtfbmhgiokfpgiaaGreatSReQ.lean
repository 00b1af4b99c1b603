import Derived.Test.YtfbmhgiokfpgiaaGreatSJnQ
open Go Go.Proofs Go.Proofs.YtfbmhgiokfpgiaaGreat.Vs
namespace Go.Proofs.YtfbmhgiokfpgiaaGreat.Vs
set_option linter.all false
set_option linter.unusedSimpArgs false
set_option linter.unusedVariables false
set_option maxRecDepth 100000
theorem zke {l : List DtInst} {id : DtId} (h : (instAt l id).fStatus ≠ 3) : depsL l id = [] := by
 unfold depsL; rw [if_neg h]
theorem zxi {l : List DtInst} {id : DtId} {x : DtInst} (h : instAt l id = x) (h3 : x.fStatus = 3) : depsL l id = x.fDeps := by
 unfold depsL; rw [h, if_pos h3]
theorem zcy {l : List DtInst} (h : InstsP l) (id : DtId) : (depsL l id).length ≤ 18 := by
 have := (zhs _).1 (zh7 h id)
 exact zh6 (zmo this.2) this.1
theorem ztt (l : List DtInst) (id : DtId) (hn : l.length ≤ 1048576) (hp : InstsP l) : PCall Tryz.prog 64 [.sl 16 (l.map DtInst.cells), .agg (DtId.cells id)] (.sl 2 ((depsL l id).map DtId.cells)) := by
 rcases zp6 hp id with ⟨h1, h2, h3⟩ | ⟨i, hi, h1, h2, h3, h4⟩
 ·have hd := zke h3
  refine zbz Tryz.func64 (by rfl) (by rfl) (by rw [Tryz.ntmps64]; exact Nat.le_of_ble_eq_true rfl) rfl (by decide) ?_
  rw [Tryz.ntmps64]
  refine AW_k [(0, _), (1, _)] ⟨rfl, rfl, trivial⟩ ?_
  refine AW_r rfl rfl fun K hK => ?_
  simp (disch := omega) [zbd, gE, tP, DtInst.cells, DtCmd.cells, DtId.cells, h2, hd]
  repeat' first | (refine ⟨by omega, ?_⟩) | (intro _)
  refine hK _ ?_; clear hK K
  refine AW_r rfl rfl fun K hK => ?_
  simp (disch := omega) [zbd, gE, tP, DtInst.cells, DtCmd.cells, DtId.cells, h2, hd]
  repeat' first | (exfalso; omega) | (refine zco (zbh zce (zbh (zcb rfl) zbs)) (zkc _ _ (by assumption)) rfl ?_; simp (disch := omega) [zbd, gE, tP, DtInst.cells, DtCmd.cells, DtId.cells, h2, hd]) | (refine ⟨by omega, ?_⟩) | (intro _)
  refine hK _ ?_; clear hK K
  refine zbr ?_
  refine AW_r rfl rfl fun K hK => ?_
  simp (disch := omega) [zbd, gE, tP, DtInst.cells, DtCmd.cells, DtId.cells, h2, hd]
  repeat' first | (refine ⟨by omega, ?_⟩) | (intro _)
  refine hK _ ?_; clear hK K
  refine zbu rfl (fun hc1 => ?_) (fun hc1 => ?_)
  ·try simp [zbc, zbb, zbg, zbf, zbq, zbt] at hc1
   all_goals
    refine AW_r rfl rfl fun K hK => ?_
    simp (disch := omega) [zbd, gE, tP, DtInst.cells, DtCmd.cells, DtId.cells, h2, hd]
    repeat' first | (exfalso; omega) | (refine ⟨fun _ => ?_, fun _ => ?_⟩) | (refine ⟨by omega, ?_⟩) | (intro _)
    all_goals (refine hK _ ?_; clear hK K)
    all_goals
     refine zby (zcd ?_)
     simp (disch := omega) [zbd, gE, tP, DtInst.cells, DtCmd.cells, DtId.cells, h2, hd]
     all_goals simp
  ·try simp [zbc, zbb, zbg, zbf, zbq, zbt] at hc1
   all_goals
    refine zbv ?_
    refine zb4 ?_
    refine AW_r rfl rfl fun K hK => ?_
    simp (disch := omega) [zbd, gE, tP, DtInst.cells, DtCmd.cells, DtId.cells, h2, hd]
    repeat' first | (exfalso; omega) | (refine ⟨fun _ => ?_, fun _ => ?_⟩) | (refine ⟨by omega, ?_⟩) | (intro _)
    all_goals (refine hK _ ?_; clear hK K)
    all_goals
     refine zby (zcd ?_)
     simp (disch := omega) [zbd, gE, tP, DtInst.cells, DtCmd.cells, DtId.cells, h2, hd]
     all_goals simp
 ·have hd := zxi h4 h3
  refine zbz Tryz.func64 (by rfl) (by rfl) (by rw [Tryz.ntmps64]; exact Nat.le_of_ble_eq_true rfl) rfl (by decide) ?_
  rw [Tryz.ntmps64]
  refine AW_k [(0, _), (1, _)] ⟨rfl, rfl, trivial⟩ ?_
  refine AW_r rfl rfl fun K hK => ?_
  simp (disch := omega) [zbd, gE, tP, DtInst.cells, DtCmd.cells, DtId.cells, h1, hd]
  repeat' first | (refine ⟨by omega, ?_⟩) | (intro _)
  refine hK _ ?_; clear hK K
  refine AW_r rfl rfl fun K hK => ?_
  simp (disch := omega) [zbd, gE, tP, DtInst.cells, DtCmd.cells, DtId.cells, h1, hd]
  repeat' first | (exfalso; omega) | (refine zco (zbh zce (zbh (zcb rfl) zbs)) (zkc _ _ (by assumption)) rfl ?_; simp (disch := omega) [zbd, gE, tP, DtInst.cells, DtCmd.cells, DtId.cells, h1, hd]) | (refine ⟨by omega, ?_⟩) | (intro _)
  refine hK _ ?_; clear hK K
  refine zbr ?_
  refine AW_r rfl rfl fun K hK => ?_
  simp (disch := omega) [zbd, gE, tP, DtInst.cells, DtCmd.cells, DtId.cells, h1, hd]
  repeat' first | (refine ⟨by omega, ?_⟩) | (intro _)
  refine hK _ ?_; clear hK K
  refine zbu rfl (fun hc2 => ?_) (fun hc2 => ?_)
  ·try simp [zbc, zbb, zbg, zbf, zbq, zbt] at hc2
   all_goals
    refine AW_r rfl rfl fun K hK => ?_
    simp (disch := omega) [zbd, gE, tP, DtInst.cells, DtCmd.cells, DtId.cells, h1, hd]
    repeat' first | (exfalso; omega) | (refine ⟨fun _ => ?_, fun _ => ?_⟩) | (refine ⟨by omega, ?_⟩) | (intro _)
    all_goals (refine hK _ ?_; clear hK K)
    all_goals
     refine zby (zcd ?_)
     simp (disch := omega) [zbd, gE, tP, DtInst.cells, DtCmd.cells, DtId.cells, h1, hd]
     all_goals simp
  ·try simp [zbc, zbb, zbg, zbf, zbq, zbt] at hc2
   all_goals
    refine zbv ?_
    refine zb4 ?_
    refine AW_r rfl rfl fun K hK => ?_
    simp (disch := omega) [zbd, gE, tP, DtInst.cells, DtCmd.cells, DtId.cells, h1, hd]
    repeat' first | (exfalso; omega) | (refine ⟨fun _ => ?_, fun _ => ?_⟩) | (refine ⟨by omega, ?_⟩) | (intro _)
    all_goals (refine hK _ ?_; clear hK K)
    all_goals
     refine zby (zcd ?_)
     simp (disch := omega) [zbd, gE, tP, DtInst.cells, DtCmd.cells, DtId.cells, h1, hd]
     all_goals simp
theorem rchL_step (l : List DtInst) (r : Nat) (hr : r < 18) (o : List DtId) : ((rndL l o).length = o.length → rchL l (18 - r) o = o) ∧ (¬ (rndL l o).length = o.length → rchL l (18 - r) o = rchL l (18 - (r + 1)) (rndL l o)) := by
 rw [show 18 - r = (18 - (r + 1)) + 1 by omega, rchL]
 exact ⟨fun h => if_pos h, fun h => if_neg h⟩
noncomputable def rdT (l : List DtInst) (o : List DtId) (i : Nat) : List DtId := (o.take i).foldl (fun nx x => jn nx (depsL l x)) o
theorem rdT_s (l : List DtInst) (o : List DtId) (i : Nat) (h : i < o.length) : rdT l o (i + 1) = jn (rdT l o i) (depsL l o[i]) := by
 unfold rdT; rw [List.take_succ_eq_append_getElem h, List.foldl_append]; rfl
theorem rdT_e (l : List DtInst) (o : List DtId) (i : Nat) (h : o.length ≤ i) : rdT l o i = rndL l o := by
 unfold rdT rndL; rw [List.take_of_length_le h]
theorem rdT_0 (l : List DtInst) (o : List DtId) : rdT l o 0 = o := by unfold rdT; simp
theorem jn_P {a b : List DtId} (ha : Srt a ∧ ∀ x ∈ a, IdP x) (hb : IdsP b) : Srt (jn a b) ∧ ∀ x ∈ jn a b, IdP x := by
 have hb := (zhs _).1 hb
 obtain ⟨h1, h2⟩ := zp5 b a ha.1 hb.2
 refine ⟨h1, fun x hx => ?_⟩
 rcases (h2 x).1 hx with h | h
 ·exact ha.2 x h
 ·exact hb.1 x h
theorem zv3 {a : List DtId} (ha : Srt a ∧ ∀ x ∈ a, IdP x) : a.length ≤ 18 := zh6 (zmo ha.1) ha.2
theorem zjo (l : List DtInst) (id : DtId) (hn : l.length ≤ 1048576) (hp : InstsP l) : PCall Tryz.prog 63 [.sl 16 (l.map DtInst.cells), .agg (DtId.cells id)] (.sl 2 ((reachL l id).map DtId.cells)) := by
 refine zbz Tryz.func63 (by rfl) (by rfl) (by rw [Tryz.ntmps63]; exact Nat.le_of_ble_eq_true rfl) rfl (by decide) ?_
 rw [Tryz.ntmps63]
 refine AW_k [(0, _), (1, _)] ⟨rfl, rfl, trivial⟩ ?_
 refine AW_r rfl rfl fun K hK => ?_
 simp (disch := omega) [zbd, gE, tP, DtId.cells]
 repeat' first | (refine zh5 (zbh (zd6 (.inl rfl) (by simp) rfl) (zbh zce zbs)) (zfp [] (depsL l id) (by simp) (Nat.le_trans (zcy hp id) (by omega))) (fun h => by cases h) ?_; try simp (disch := omega) [zbd, gE, tP, DtId.cells]) | (refine ⟨by omega, ?_⟩) | (intro _)
 refine hK _ ?_; clear hK K
 refine AW_r rfl rfl fun K hK => ?_
 simp (disch := omega) [zbd, gE, tP, DtId.cells]
 repeat' first | (exfalso; omega) | (refine zh5 (zbh (zd6 (.inl rfl) (by simp) rfl) (zbh zce zbs)) (zfp [] (depsL l id) (by simp) (Nat.le_trans (zcy hp id) (by omega))) (fun h => by cases h) ?_; try simp (disch := omega) [zbd, gE, tP, DtId.cells]) | (refine zco (zbh zce (zbh (zcb rfl) zbs)) (ztt _ _ (by assumption) (by assumption)) rfl ?_; simp (disch := omega) [zbd, gE, tP, DtId.cells]) | (refine zco (zbh zce (zbh zce zbs)) (zfp _ _ (by omega) (Nat.le_trans (zcy hp _) (by omega))) rfl ?_; simp (disch := omega) [zbd, gE, tP, DtId.cells]) | (refine ⟨by omega, ?_⟩) | (intro _)
 refine hK _ ?_; clear hK K
 refine zbr ?_
 refine AW_r rfl rfl fun K hK => ?_
 simp (disch := omega) [zbd, gE, tP, DtId.cells]
 repeat' first | (refine zh5 (zbh (zd6 (.inl rfl) (by simp) rfl) (zbh zce zbs)) (zfp [] (depsL l id) (by simp) (Nat.le_trans (zcy hp id) (by omega))) (fun h => by cases h) ?_; try simp (disch := omega) [zbd, gE, tP, DtId.cells]) | (refine ⟨by omega, ?_⟩) | (intro _)
 refine hK _ ?_; clear hK K
 refine zb0 ?_
 refine zcf (fun mM sS => ∃ (r : Nat) (o : List DtId), mM = 18 - r ∧ (r ≤ 18 ∧ (Srt o ∧ ∀ x ∈ o, IdP x) ∧ rchL l (18 - r) o = reachL l id) ∧ sS = { env := lkE [(0, .sl 16 (l.map DtInst.cells)), (3, .ptr 64 0), (5, .sl 2 (o.map DtId.cells)), (6, (.g (.int .i64 ((r : Nat)))))], ob := lk [(64, .cells (DtId.cells id))] }) ?_ ?_
 ·refine ⟨_, LeS.ko [(0, .sl 16 (l.map DtInst.cells)), (3, .ptr 64 0), (5, .sl 2 ((jn [] (depsL l id)).map DtId.cells)), (6, (.g (.int .i64 (((0) : Nat)))))] [(64, .cells (DtId.cells id))] (by simp [KpE, zbl, zb5, zbi, DtId.cells]; try (rw [he]; done)) (by simp [KpO, zbl, zbi, zbp, zcj, DtId.cells]; try rfl) (by rfl) (by simp) (by rfl), _, 0, jn [] (depsL l id), rfl, ?_, rfl⟩
  ·exact ⟨by omega, jn_P ⟨List.Pairwise.nil, by simp⟩ (zh7 hp id), rfl⟩
 ·rintro mM sS ⟨r, o, rfl, ⟨hr, ho, hrc⟩, rfl⟩
  have hol := zv3 ho
  refine zbr ?_
  refine AW_r rfl rfl fun K hK => ?_
  simp (disch := omega) [zbd, gE, tP, DtId.cells]
  repeat' first | (refine zh5 (zbh (zd6 (.inl rfl) (by simp) rfl) (zbh zce zbs)) (zfp [] (depsL l id) (by simp) (Nat.le_trans (zcy hp id) (by omega))) (fun h => by cases h) ?_; try simp (disch := omega) [zbd, gE, tP, DtId.cells]) | (refine ⟨by omega, ?_⟩) | (intro _)
  refine hK _ ?_; clear hK K
  refine zbu rfl (fun hc3 => ?_) (fun hc3 => ?_)
  ·try simp [zbc, zbb, zbg, zbf, zbq, zbt] at hc3
   all_goals
    refine zbv ?_
    refine zb4 ?_
    refine zbr ?_
    refine zb0 ?_
    refine AW_r rfl rfl fun K hK => ?_
    simp (disch := omega) [zbd, gE, tP, DtId.cells]
    repeat' first | (exfalso; omega) | (refine zh5 (zbh (zd6 (.inl rfl) (by simp) rfl) (zbh zce zbs)) (zfp [] (depsL l id) (by simp) (Nat.le_trans (zcy hp id) (by omega))) (fun h => by cases h) ?_; try simp (disch := omega) [zbd, gE, tP, DtId.cells]) | (refine ⟨fun _ => ?_, fun _ => ?_⟩) | (refine ⟨by omega, ?_⟩) | (intro _)
    all_goals (refine hK _ ?_; clear hK K)
    all_goals
     refine zbr ?_
     refine AW_r rfl rfl fun K hK => ?_
     simp (disch := omega) [zbd, gE, tP, DtId.cells]
     repeat' first | (refine zh5 (zbh (zd6 (.inl rfl) (by simp) rfl) (zbh zce zbs)) (zfp [] (depsL l id) (by simp) (Nat.le_trans (zcy hp id) (by omega))) (fun h => by cases h) ?_; try simp (disch := omega) [zbd, gE, tP, DtId.cells]) | (refine ⟨by omega, ?_⟩) | (intro _)
     refine hK _ ?_; clear hK K
     refine zb0 ?_
     refine zcf (fun mM sS => ∃ (i : Nat), mM = o.length - i ∧ (i ≤ o.length ∧ (Srt (rdT l o i) ∧ ∀ x ∈ rdT l o i, IdP x)) ∧ sS = { env := lkE [(0, .sl 16 (l.map DtInst.cells)), (3, .ptr 64 0), (5, .sl 2 (o.map DtId.cells)), (6, (.g (.int .i64 ((r : Nat))))), (7, .sl 2 ((rdT l o i).map DtId.cells)), (8, (.g (.int .i64 ((i : Nat)))))], ob := lk [(64, .cells (DtId.cells id))] }) ?_ ?_
     ·refine ⟨_, LeS.ko [(0, .sl 16 (l.map DtInst.cells)), (3, .ptr 64 0), (5, .sl 2 (o.map DtId.cells)), (6, (.g (.int .i64 ((r : Nat))))), (7, .sl 2 ((rdT l o (0)).map DtId.cells)), (8, (.g (.int .i64 (((0) : Nat)))))] [(64, .cells (DtId.cells id))] (by simp [KpE, zbl, zb5, zbi, DtId.cells, rdT_0]; try (rw [hs]; done)) (by simp [KpO, zbl, zbi, zbp, zcj, DtId.cells, rdT_0]; try rfl) (by rfl) (by simp) (by rfl), _, 0, rfl, ?_, rfl⟩
      ·exact ⟨by omega, by rw [rdT_0]; exact ho⟩
     ·rintro mM sS ⟨i, rfl, ⟨hi, hnx⟩, rfl⟩
      have hnl := zv3 hnx
      refine zbr ?_
      refine AW_r rfl rfl fun K hK => ?_
      simp (disch := omega) [zbd, gE, tP, DtId.cells]
      repeat' first | (refine zh5 (zbh (zd6 (.inl rfl) (by simp) rfl) (zbh zce zbs)) (zfp [] (depsL l id) (by simp) (Nat.le_trans (zcy hp id) (by omega))) (fun h => by cases h) ?_; try simp (disch := omega) [zbd, gE, tP, DtId.cells]) | (refine ⟨by omega, ?_⟩) | (intro _)
      refine hK _ ?_; clear hK K
      refine zbu rfl (fun hc4 => ?_) (fun hc4 => ?_)
      ·try simp [zbc, zbb, zbg, zbf, zbq, zbt] at hc4
       all_goals
        have hs := rdT_s l o i (by omega)
        refine zbv ?_
        refine zb4 ?_
        refine zbr ?_
        refine zb0 ?_
        refine zdi rfl rfl fun K hK => ?_
        simp (disch := omega) [zbd, gE, tP, DtId.cells]
        repeat' first | (exfalso; omega) | (refine zh5 (zbh (zd6 (.inl rfl) (by simp) rfl) (zbh zce zbs)) (zfp [] (depsL l id) (by simp) (Nat.le_trans (zcy hp id) (by omega))) (fun h => by cases h) ?_; try simp (disch := omega) [zbd, gE, tP, DtId.cells]) | (refine zco (zbh zce (zbh (zcb rfl) zbs)) (ztt _ _ (by assumption) (by assumption)) rfl ?_; simp (disch := omega) [zbd, gE, tP, DtId.cells]) | (refine zco (zbh zce (zbh zce zbs)) (zfp _ _ (by omega) (Nat.le_trans (zcy hp _) (by omega))) rfl ?_; simp (disch := omega) [zbd, gE, tP, DtId.cells]) | (refine ⟨fun _ => ?_, fun _ => ?_⟩) | (refine ⟨by omega, ?_⟩) | (intro _)
        all_goals (refine hK _ ?_; clear hK K)
        all_goals
         refine zb4 ?_
         refine zdi rfl rfl fun K hK => ?_
         simp (disch := omega) [zbd, gE, tP, DtId.cells]
         repeat' first | (refine zh5 (zbh (zd6 (.inl rfl) (by simp) rfl) (zbh zce zbs)) (zfp [] (depsL l id) (by simp) (Nat.le_trans (zcy hp id) (by omega))) (fun h => by cases h) ?_; try simp (disch := omega) [zbd, gE, tP, DtId.cells]) | (refine ⟨by omega, ?_⟩) | (intro _)
         refine hK _ ?_; clear hK K
         refine ⟨_, LeS.ko [(0, .sl 16 (l.map DtInst.cells)), (3, .ptr 64 0), (5, .sl 2 (o.map DtId.cells)), (6, (.g (.int .i64 ((r : Nat))))), (7, .sl 2 ((rdT l o (i + 1)).map DtId.cells)), (8, (.g (.int .i64 (((i + 1) : Nat)))))] [(64, .cells (DtId.cells id))] (by simp [KpE, zbl, zb5, zbi, DtId.cells, rdT_0]; try (rw [hs]; done)) (by simp [KpO, zbl, zbi, zbp, zcj, DtId.cells, rdT_0]; try rfl) (by rfl) (by simp) (by rfl), _, ?_, i + 1, rfl, ?_, rfl⟩
         ·omega
         ·refine ⟨by omega, ?_⟩; rw [hs]; exact jn_P hnx (zh7 hp _)
      ·try simp [zbc, zbb, zbg, zbf, zbq, zbt] at hc4
       all_goals
        have he := rdT_e l o i (by omega)
        have hst := rchL_step l r (by omega) o
        refine zch ?_
        refine zb4 ?_
        refine zbr ?_
        refine AW_r rfl rfl fun K hK => ?_
        simp (disch := omega) [zbd, gE, tP, DtId.cells]
        repeat' first | (exfalso; omega) | (refine zh5 (zbh (zd6 (.inl rfl) (by simp) rfl) (zbh zce zbs)) (zfp [] (depsL l id) (by simp) (Nat.le_trans (zcy hp id) (by omega))) (fun h => by cases h) ?_; try simp (disch := omega) [zbd, gE, tP, DtId.cells]) | (refine ⟨fun _ => ?_, fun _ => ?_⟩) | (refine ⟨by omega, ?_⟩) | (intro _)
        all_goals (refine hK _ ?_; clear hK K)
        all_goals
         refine zbu rfl (fun hc5 => ?_) (fun hc5 => ?_)
         ·try simp [zbc, zbb, zbg, zbf, zbq, zbt] at hc5
          all_goals
           refine AW_r rfl rfl fun K hK => ?_
           simp (disch := omega) [zbd, gE, tP, DtId.cells]
           repeat' first | (exfalso; omega) | (refine zh5 (zbh (zd6 (.inl rfl) (by simp) rfl) (zbh zce zbs)) (zfp [] (depsL l id) (by simp) (Nat.le_trans (zcy hp id) (by omega))) (fun h => by cases h) ?_; try simp (disch := omega) [zbd, gE, tP, DtId.cells]) | (refine ⟨fun _ => ?_, fun _ => ?_⟩) | (refine ⟨by omega, ?_⟩) | (intro _)
           all_goals (refine hK _ ?_; clear hK K)
           all_goals
            refine zby (zcd ?_)
            simp (disch := omega) [zbd, gE, tP, DtId.cells]
            all_goals first | (rw [← hrc, hst.1 (by rw [← he]; omega)]; done) | ((have e : r = 18 := by omega); subst e; rw [← hrc]; simp [rchL]; done) | trace_state
         ·try simp [zbc, zbb, zbg, zbf, zbq, zbt] at hc5
          all_goals
           refine zbv ?_
           refine zb4 ?_
           refine zdi rfl rfl fun K hK => ?_
           simp (disch := omega) [zbd, gE, tP, DtId.cells]
           repeat' first | (exfalso; omega) | (refine zh5 (zbh (zd6 (.inl rfl) (by simp) rfl) (zbh zce zbs)) (zfp [] (depsL l id) (by simp) (Nat.le_trans (zcy hp id) (by omega))) (fun h => by cases h) ?_; try simp (disch := omega) [zbd, gE, tP, DtId.cells]) | (refine ⟨fun _ => ?_, fun _ => ?_⟩) | (refine ⟨by omega, ?_⟩) | (intro _)
           all_goals (refine hK _ ?_; clear hK K)
           all_goals
            refine zb4 ?_
            refine zdi rfl rfl fun K hK => ?_
            simp (disch := omega) [zbd, gE, tP, DtId.cells]
            repeat' first | (refine zh5 (zbh (zd6 (.inl rfl) (by simp) rfl) (zbh zce zbs)) (zfp [] (depsL l id) (by simp) (Nat.le_trans (zcy hp id) (by omega))) (fun h => by cases h) ?_; try simp (disch := omega) [zbd, gE, tP, DtId.cells]) | (refine ⟨by omega, ?_⟩) | (intro _)
            refine hK _ ?_; clear hK K
            refine ⟨_, LeS.ko [(0, .sl 16 (l.map DtInst.cells)), (3, .ptr 64 0), (5, .sl 2 ((rndL l o).map DtId.cells)), (6, (.g (.int .i64 (((r + 1) : Nat)))))] [(64, .cells (DtId.cells id))] (by simp [KpE, zbl, zb5, zbi, DtId.cells]; try (rw [he]; done)) (by simp [KpO, zbl, zbi, zbp, zcj, DtId.cells]; try rfl) (by rfl) (by simp) (by rfl), _, ?_, r + 1, rndL l o, rfl, ?_, rfl⟩
            ·omega
            ·refine ⟨by omega, by rw [← he]; exact hnx, ?_⟩; rw [← hst.2 (by rw [← he]; omega)]; exact hrc
  ·try simp [zbc, zbb, zbg, zbf, zbq, zbt] at hc3
   all_goals
    refine zch ?_
    refine zb4 ?_
    refine AW_r rfl rfl fun K hK => ?_
    simp (disch := omega) [zbd, gE, tP, DtId.cells]
    repeat' first | (exfalso; omega) | (refine zh5 (zbh (zd6 (.inl rfl) (by simp) rfl) (zbh zce zbs)) (zfp [] (depsL l id) (by simp) (Nat.le_trans (zcy hp id) (by omega))) (fun h => by cases h) ?_; try simp (disch := omega) [zbd, gE, tP, DtId.cells]) | (refine ⟨fun _ => ?_, fun _ => ?_⟩) | (refine ⟨by omega, ?_⟩) | (intro _)
    all_goals (refine hK _ ?_; clear hK K)
    all_goals
     refine zby (zcd ?_)
     simp (disch := omega) [zbd, gE, tP, DtId.cells]
     all_goals first | (rw [← hrc, hst.1 (by rw [← he]; omega)]; done) | ((have e : r = 18 := by omega); subst e; rw [← hrc]; simp [rchL]; done) | trace_state
def RdyP (l : List DtInst) (id : DtId) : Prop := ¬ cAt l id < 0 ∧ ∀ (j : Nat) x, (reachL l id)[j]? = some x → ¬ cAt l x < 0
theorem zv4 (l : List DtInst) (id : DtId) (hn : l.length ≤ 1048576) (hp : InstsP l) : PCall Tryz.prog 41 [.sl 16 (l.map DtInst.cells), .agg (DtId.cells id)] (.g (.bool (decB (RdyP l id)))) := by
 have hrl : (reachL l id).length ≤ 18 := by
  have := zdj hp id
  exact zv3 ⟨this.1, fun x hx => zts hp ((this.2 x).1 hx)⟩
 refine zbz Tryz.func41 (by rfl) (by rfl) (by rw [Tryz.ntmps41]; exact Nat.le_of_ble_eq_true rfl) rfl (by decide) ?_
 rw [Tryz.ntmps41]
 refine AW_k [(0, _), (1, _)] ⟨rfl, rfl, trivial⟩ ?_
 refine AW_r rfl rfl fun K hK => ?_
 simp (disch := omega) [zbd, gE, tP, DtId.cells, zbc, zbb]
 repeat' first | (refine ⟨by omega, ?_⟩) | (intro _)
 refine hK _ ?_; clear hK K
 refine zbr ?_
 refine AW_r rfl rfl fun K hK => ?_
 simp (disch := omega) [zbd, gE, tP, DtId.cells, zbc, zbb]
 repeat' first | (exfalso; omega) | (refine zco (zbh zce (zbh (zcb rfl) zbs)) (zkc _ _ (by assumption)) rfl ?_; simp (disch := omega) [zbd, gE, tP, DtId.cells, zbc, zbb]) | (refine ⟨by omega, ?_⟩) | (intro _)
 refine hK _ ?_; clear hK K
 refine zbu rfl (fun hc6 => ?_) (fun hc6 => ?_)
 ·try simp [zbc, zbb, zbg, zbf, zbq, zbt] at hc6
  all_goals
   refine AW_r rfl rfl fun K hK => ?_
   simp (disch := omega) [zbd, gE, tP, DtId.cells, zbc, zbb]
   repeat' first | (exfalso; omega) | (refine ⟨fun _ => ?_, fun _ => ?_⟩) | (refine ⟨by omega, ?_⟩) | (intro _)
   all_goals (refine hK _ ?_; clear hK K)
   all_goals
    refine zby (zcd ?_)
    simp (disch := omega) [zbd, gE, tP, DtId.cells, zbc, zbb]
    all_goals first | grind [RdyP] | (refine zc4 fun h => ?_; grind [RdyP]) | (refine zcu ?_; grind [RdyP]) | trace_state
 ·try simp [zbc, zbb, zbg, zbf, zbq, zbt] at hc6
  all_goals
   refine zbv ?_
   refine zb4 ?_
   refine AW_r rfl rfl fun K hK => ?_
   simp (disch := omega) [zbd, gE, tP, DtId.cells, zbc, zbb]
   repeat' first | (exfalso; omega) | (refine zco (zbh zce (zbh (zcb rfl) zbs)) (zjo _ _ (by assumption) (by assumption)) rfl ?_; simp (disch := omega) [zbd, gE, tP, DtId.cells, zbc, zbb]) | (refine ⟨fun _ => ?_, fun _ => ?_⟩) | (refine ⟨by omega, ?_⟩) | (intro _)
   all_goals (refine hK _ ?_; clear hK K)
   all_goals
    refine zbr ?_
    refine AW_r rfl rfl fun K hK => ?_
    simp (disch := omega) [zbd, gE, tP, DtId.cells, zbc, zbb]
    repeat' first | (refine ⟨by omega, ?_⟩) | (intro _)
    refine hK _ ?_; clear hK K
    refine zb0 ?_
    refine zcf (fun mM sS => ∃ (i : Nat), mM = (reachL l id).length - i ∧ (i ≤ (reachL l id).length ∧ ∀ (j : Nat) x, j < i → (reachL l id)[j]? = some x → ¬ cAt l x < 0) ∧ sS = { env := lkE [(0, .sl 16 (l.map DtInst.cells)), (3, .ptr 64 0), (5, .sl 2 ((reachL l id).map DtId.cells)), (6, (.g (.int .i64 ((i : Nat)))))], ob := lk [(64, .cells (DtId.cells id))] }) ?_ ?_
    ·refine ⟨_, LeS.ko [(0, .sl 16 (l.map DtInst.cells)), (3, .ptr 64 0), (5, .sl 2 ((reachL l id).map DtId.cells)), (6, (.g (.int .i64 (((0) : Nat)))))] [(64, .cells (DtId.cells id))] (by simp [KpE, zbl, zb5, zbi, DtId.cells]; try rfl) (by simp [KpO, zbl, zbi, zbp, zcj, DtId.cells]; try rfl) (by rfl) (by simp) (by rfl), _, 0, rfl, ?_, rfl⟩
     ·simp
    ·rintro mM sS ⟨i, rfl, ⟨hi, hpre⟩, rfl⟩
     refine zbr ?_
     refine AW_r rfl rfl fun K hK => ?_
     simp (disch := omega) [zbd, gE, tP, DtId.cells, zbc, zbb]
     repeat' first | (refine ⟨by omega, ?_⟩) | (intro _)
     refine hK _ ?_; clear hK K
     refine zbu rfl (fun hc7 => ?_) (fun hc7 => ?_)
     ·try simp [zbc, zbb, zbg, zbf, zbq, zbt] at hc7
      all_goals
       have hg : (reachL l id)[i]? = some (reachL l id)[i] := List.getElem?_eq_getElem (by omega)
       refine zbv ?_
       refine zb4 ?_
       refine zbr ?_
       refine zb0 ?_
       refine AW_r rfl rfl fun K hK => ?_
       simp (disch := omega) [zbd, gE, tP, DtId.cells, zbc, zbb]
       repeat' first | (exfalso; omega) | (refine zco (zbh zce (zbh (zcb rfl) zbs)) (zkc _ _ (by assumption)) rfl ?_; simp (disch := omega) [zbd, gE, tP, DtId.cells, zbc, zbb]) | (refine ⟨fun _ => ?_, fun _ => ?_⟩) | (refine ⟨by omega, ?_⟩) | (intro _)
       all_goals (refine hK _ ?_; clear hK K)
       all_goals
        refine zbu rfl (fun hc8 => ?_) (fun hc8 => ?_)
        ·try simp [zbc, zbb, zbg, zbf, zbq, zbt] at hc8
         all_goals
          refine AW_r rfl rfl fun K hK => ?_
          simp (disch := omega) [zbd, gE, tP, DtId.cells, zbc, zbb]
          repeat' first | (exfalso; omega) | (refine ⟨fun _ => ?_, fun _ => ?_⟩) | (refine ⟨by omega, ?_⟩) | (intro _)
          all_goals (refine hK _ ?_; clear hK K)
          all_goals
           refine zby (zcd ?_)
           simp (disch := omega) [zbd, gE, tP, DtId.cells, zbc, zbb]
           all_goals first | grind [RdyP] | (refine zc4 fun h => ?_; grind [RdyP]) | (refine zcu ?_; grind [RdyP]) | trace_state
        ·try simp [zbc, zbb, zbg, zbf, zbq, zbt] at hc8
         all_goals
          refine zbv ?_
          refine zb4 ?_
          refine zdi rfl rfl fun K hK => ?_
          simp (disch := omega) [zbd, gE, tP, DtId.cells, zbc, zbb]
          repeat' first | (exfalso; omega) | (refine ⟨fun _ => ?_, fun _ => ?_⟩) | (refine ⟨by omega, ?_⟩) | (intro _)
          all_goals (refine hK _ ?_; clear hK K)
          all_goals
           refine ⟨_, LeS.ko [(0, .sl 16 (l.map DtInst.cells)), (3, .ptr 64 0), (5, .sl 2 ((reachL l id).map DtId.cells)), (6, (.g (.int .i64 (((i + 1) : Nat)))))] [(64, .cells (DtId.cells id))] (by simp [KpE, zbl, zb5, zbi, DtId.cells]; try rfl) (by simp [KpO, zbl, zbi, zbp, zcj, DtId.cells]; try rfl) (by rfl) (by simp) (by rfl), _, ?_, i + 1, rfl, ?_, rfl⟩
           ·omega
           ·refine ⟨by omega, ?_⟩; grind
     ·try simp [zbc, zbb, zbg, zbf, zbq, zbt] at hc7
      all_goals
       refine zch ?_
       refine zb4 ?_
       refine AW_r rfl rfl fun K hK => ?_
       simp (disch := omega) [zbd, gE, tP, DtId.cells, zbc, zbb]
       repeat' first | (exfalso; omega) | (refine ⟨fun _ => ?_, fun _ => ?_⟩) | (refine ⟨by omega, ?_⟩) | (intro _)
       all_goals (refine hK _ ?_; clear hK K)
       all_goals
        refine zby (zcd ?_)
        simp (disch := omega) [zbd, gE, tP, DtId.cells, zbc, zbb]
        all_goals first | grind [RdyP] | (refine zc4 fun h => ?_; grind [RdyP]) | (refine zcu ?_; grind [RdyP]) | trace_state
end Go.Proofs.YtfbmhgiokfpgiaaGreat.Vs

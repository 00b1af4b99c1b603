import Derived.Test.YtfbmhgiokfpgiaaSJnQ
open Go Go.Proofs Go.Proofs.Ytfbmhgiokfpgiaa.Vs
namespace Go.Proofs.Ytfbmhgiokfpgiaa.Vs
set_option linter.all false
set_option linter.unusedSimpArgs false
set_option linter.unusedVariables false
set_option maxRecDepth 100000
theorem zjv {l : List DtInst} {id : DtId} (h : (instAt l id).fStatus ≠ 3) : depsL l id = [] := by
 unfold depsL; rw [if_neg h]
theorem zwf {l : List DtInst} {id : DtId} {x : DtInst} (h : instAt l id = x) (h3 : x.fStatus = 3) : depsL l id = x.fDeps := by
 unfold depsL; rw [h, if_pos h3]
theorem zcr {l : List DtInst} (h : InstsP l) (id : DtId) : (depsL l id).length ≤ 18 := by
 have := (zhb _).1 (zho h id)
 exact zhn (zly this.2) this.1
theorem zs1 (l : List DtInst) (id : DtId) (hn : l.length ≤ 1048576) (hp : InstsP l) : PCall Try.prog 53 [.sl 16 (l.map DtInst.cells), .agg (DtId.cells id)] (.sl 2 ((depsL l id).map DtId.cells)) := by
 rcases zpe hp id with ⟨h1, h2, h3⟩ | ⟨i, hi, h1, h2, h3, h4⟩
 ·have hd := zjv h3
  refine zbu Try.func53 (by rfl) (by rfl) (by rw [Try.ntmps53]; exact Nat.le_of_ble_eq_true rfl) rfl (by decide) ?_
  rw [Try.ntmps53]
  refine AW_k [(0, _), (1, _)] ⟨rfl, rfl, trivial⟩ ?_
  refine AW_r rfl rfl fun K hK => ?_
  simp (disch := omega) [zbd, gE, tP, DtInst.cells, DtCmd.cells, DtId.cells, h2, hd]
  repeat' first | (refine ⟨by omega, ?_⟩) | (intro _)
  refine hK _ ?_; clear hK K
  refine AW_r rfl rfl fun K hK => ?_
  simp (disch := omega) [zbd, gE, tP, DtInst.cells, DtCmd.cells, DtId.cells, h2, hd]
  repeat' first | (exfalso; omega) | (refine zck (zbg zca (zbg (zb6 rfl) zbr)) (zjt _ _ (by assumption)) rfl ?_; simp (disch := omega) [zbd, gE, tP, DtInst.cells, DtCmd.cells, DtId.cells, h2, hd]) | (refine ⟨by omega, ?_⟩) | (intro _)
  refine hK _ ?_; clear hK K
  refine zbt ?_
  refine AW_r rfl rfl fun K hK => ?_
  simp (disch := omega) [zbd, gE, tP, DtInst.cells, DtCmd.cells, DtId.cells, h2, hd]
  repeat' first | (refine ⟨by omega, ?_⟩) | (intro _)
  refine hK _ ?_; clear hK K
  refine zbv rfl (fun hc1 => ?_) (fun hc1 => ?_)
  ·try simp [zbb, zba, zbf, zbe, zbp, zbq] at hc1
   all_goals
    refine AW_r rfl rfl fun K hK => ?_
    simp (disch := omega) [zbd, gE, tP, DtInst.cells, DtCmd.cells, DtId.cells, h2, hd]
    repeat' first | (exfalso; omega) | (refine ⟨fun _ => ?_, fun _ => ?_⟩) | (refine ⟨by omega, ?_⟩) | (intro _)
    all_goals (refine hK _ ?_; clear hK K)
    all_goals
     refine zbz (zcb ?_)
     simp (disch := omega) [zbd, gE, tP, DtInst.cells, DtCmd.cells, DtId.cells, h2, hd]
     all_goals simp
  ·try simp [zbb, zba, zbf, zbe, zbp, zbq] at hc1
   all_goals
    refine zbw ?_
    refine zb3 ?_
    refine AW_r rfl rfl fun K hK => ?_
    simp (disch := omega) [zbd, gE, tP, DtInst.cells, DtCmd.cells, DtId.cells, h2, hd]
    repeat' first | (exfalso; omega) | (refine ⟨fun _ => ?_, fun _ => ?_⟩) | (refine ⟨by omega, ?_⟩) | (intro _)
    all_goals (refine hK _ ?_; clear hK K)
    all_goals
     refine zbz (zcb ?_)
     simp (disch := omega) [zbd, gE, tP, DtInst.cells, DtCmd.cells, DtId.cells, h2, hd]
     all_goals simp
 ·have hd := zwf h4 h3
  refine zbu Try.func53 (by rfl) (by rfl) (by rw [Try.ntmps53]; exact Nat.le_of_ble_eq_true rfl) rfl (by decide) ?_
  rw [Try.ntmps53]
  refine AW_k [(0, _), (1, _)] ⟨rfl, rfl, trivial⟩ ?_
  refine AW_r rfl rfl fun K hK => ?_
  simp (disch := omega) [zbd, gE, tP, DtInst.cells, DtCmd.cells, DtId.cells, h1, hd]
  repeat' first | (refine ⟨by omega, ?_⟩) | (intro _)
  refine hK _ ?_; clear hK K
  refine AW_r rfl rfl fun K hK => ?_
  simp (disch := omega) [zbd, gE, tP, DtInst.cells, DtCmd.cells, DtId.cells, h1, hd]
  repeat' first | (exfalso; omega) | (refine zck (zbg zca (zbg (zb6 rfl) zbr)) (zjt _ _ (by assumption)) rfl ?_; simp (disch := omega) [zbd, gE, tP, DtInst.cells, DtCmd.cells, DtId.cells, h1, hd]) | (refine ⟨by omega, ?_⟩) | (intro _)
  refine hK _ ?_; clear hK K
  refine zbt ?_
  refine AW_r rfl rfl fun K hK => ?_
  simp (disch := omega) [zbd, gE, tP, DtInst.cells, DtCmd.cells, DtId.cells, h1, hd]
  repeat' first | (refine ⟨by omega, ?_⟩) | (intro _)
  refine hK _ ?_; clear hK K
  refine zbv rfl (fun hc2 => ?_) (fun hc2 => ?_)
  ·try simp [zbb, zba, zbf, zbe, zbp, zbq] at hc2
   all_goals
    refine AW_r rfl rfl fun K hK => ?_
    simp (disch := omega) [zbd, gE, tP, DtInst.cells, DtCmd.cells, DtId.cells, h1, hd]
    repeat' first | (exfalso; omega) | (refine ⟨fun _ => ?_, fun _ => ?_⟩) | (refine ⟨by omega, ?_⟩) | (intro _)
    all_goals (refine hK _ ?_; clear hK K)
    all_goals
     refine zbz (zcb ?_)
     simp (disch := omega) [zbd, gE, tP, DtInst.cells, DtCmd.cells, DtId.cells, h1, hd]
     all_goals simp
  ·try simp [zbb, zba, zbf, zbe, zbp, zbq] at hc2
   all_goals
    refine zbw ?_
    refine zb3 ?_
    refine AW_r rfl rfl fun K hK => ?_
    simp (disch := omega) [zbd, gE, tP, DtInst.cells, DtCmd.cells, DtId.cells, h1, hd]
    repeat' first | (exfalso; omega) | (refine ⟨fun _ => ?_, fun _ => ?_⟩) | (refine ⟨by omega, ?_⟩) | (intro _)
    all_goals (refine hK _ ?_; clear hK K)
    all_goals
     refine zbz (zcb ?_)
     simp (disch := omega) [zbd, gE, tP, DtInst.cells, DtCmd.cells, DtId.cells, h1, hd]
     all_goals simp
theorem zz3 (l : List DtInst) (r : Nat) (hr : r < 18) (o : List DtId) : ((rndL l o).length = o.length → rchL l (18 - r) o = o) ∧ (¬ (rndL l o).length = o.length → rchL l (18 - r) o = rchL l (18 - (r + 1)) (rndL l o)) := by
 rw [show 18 - r = (18 - (r + 1)) + 1 by omega, rchL]
 exact ⟨fun h => if_pos h, fun h => if_neg h⟩
noncomputable def rdT (l : List DtInst) (o : List DtId) (i : Nat) : List DtId := (o.take i).foldl (fun nx x => jn nx (depsL l x)) o
theorem rdT_s (l : List DtInst) (o : List DtId) (i : Nat) (h : i < o.length) : rdT l o (i + 1) = jn (rdT l o i) (depsL l o[i]) := by
 unfold rdT; rw [List.take_succ_eq_append_getElem h, List.foldl_append]; rfl
theorem rdT_e (l : List DtInst) (o : List DtId) (i : Nat) (h : o.length ≤ i) : rdT l o i = rndL l o := by
 unfold rdT rndL; rw [List.take_of_length_le h]
theorem zz4 (l : List DtInst) (o : List DtId) : rdT l o 0 = o := by unfold rdT; simp
theorem jn_P {a b : List DtId} (ha : Srt a ∧ ∀ x ∈ a, IdP x) (hb : IdsP b) : Srt (jn a b) ∧ ∀ x ∈ jn a b, IdP x := by
 have hb := (zhb _).1 hb
 obtain ⟨h1, h2⟩ := zpd b a ha.1 hb.2
 refine ⟨h1, fun x hx => ?_⟩
 rcases (h2 x).1 hx with h | h
 ·exact ha.2 x h
 ·exact hb.1 x h
theorem zt7 {a : List DtId} (ha : Srt a ∧ ∀ x ∈ a, IdP x) : a.length ≤ 18 := zhn (zly ha.1) ha.2
theorem zh6 (l : List DtInst) (id : DtId) (hn : l.length ≤ 1048576) (hp : InstsP l) : PCall Try.prog 36 [.sl 16 (l.map DtInst.cells), .agg (DtId.cells id)] (.sl 2 ((reachL l id).map DtId.cells)) := by
 refine zbu Try.func36 (by rfl) (by rfl) (by rw [Try.ntmps36]; exact Nat.le_of_ble_eq_true rfl) rfl (by decide) ?_
 rw [Try.ntmps36]
 refine AW_k [(0, _), (1, _)] ⟨rfl, rfl, trivial⟩ ?_
 refine AW_r rfl rfl fun K hK => ?_
 simp (disch := omega) [zbd, gE, tP, DtId.cells]
 repeat' first | (refine zhm (zbg (zdw (.inl rfl) (by simp) rfl) (zbg zca zbr)) (zfc [] (depsL l id) (by simp) (Nat.le_trans (zcr hp id) (by omega))) (fun h => by cases h) ?_; try simp (disch := omega) [zbd, gE, tP, DtId.cells]) | (refine ⟨by omega, ?_⟩) | (intro _)
 refine hK _ ?_; clear hK K
 refine AW_r rfl rfl fun K hK => ?_
 simp (disch := omega) [zbd, gE, tP, DtId.cells]
 repeat' first | (exfalso; omega) | (refine zhm (zbg (zdw (.inl rfl) (by simp) rfl) (zbg zca zbr)) (zfc [] (depsL l id) (by simp) (Nat.le_trans (zcr hp id) (by omega))) (fun h => by cases h) ?_; try simp (disch := omega) [zbd, gE, tP, DtId.cells]) | (refine zck (zbg zca (zbg (zb6 rfl) zbr)) (zs1 _ _ (by assumption) (by assumption)) rfl ?_; simp (disch := omega) [zbd, gE, tP, DtId.cells]) | (refine zck (zbg zca (zbg zca zbr)) (zfc _ _ (by omega) (Nat.le_trans (zcr hp _) (by omega))) rfl ?_; simp (disch := omega) [zbd, gE, tP, DtId.cells]) | (refine ⟨by omega, ?_⟩) | (intro _)
 refine hK _ ?_; clear hK K
 refine zbt ?_
 refine AW_r rfl rfl fun K hK => ?_
 simp (disch := omega) [zbd, gE, tP, DtId.cells]
 repeat' first | (refine zhm (zbg (zdw (.inl rfl) (by simp) rfl) (zbg zca zbr)) (zfc [] (depsL l id) (by simp) (Nat.le_trans (zcr hp id) (by omega))) (fun h => by cases h) ?_; try simp (disch := omega) [zbd, gE, tP, DtId.cells]) | (refine ⟨by omega, ?_⟩) | (intro _)
 refine hK _ ?_; clear hK K
 refine zb0 ?_
 refine zcc (fun mM sS => ∃ (r : Nat) (o : List DtId), mM = 18 - r ∧ (r ≤ 18 ∧ (Srt o ∧ ∀ x ∈ o, IdP x) ∧ rchL l (18 - r) o = reachL l id) ∧ sS = { env := lkE [(0, .sl 16 (l.map DtInst.cells)), (3, .ptr 64 0), (5, .sl 2 (o.map DtId.cells)), (6, (.g (.int .i64 ((r : Nat)))))], ob := lk [(64, .cells (DtId.cells id))] }) ?_ ?_
 ·refine ⟨_, LeS.ko [(0, .sl 16 (l.map DtInst.cells)), (3, .ptr 64 0), (5, .sl 2 ((jn [] (depsL l id)).map DtId.cells)), (6, (.g (.int .i64 (((0) : Nat)))))] [(64, .cells (DtId.cells id))] (by simp [KpE, zbn, zb4, zbk, DtId.cells]; try (rw [he]; done)) (by simp [KpO, zbn, zbk, zbx, zcf, DtId.cells]; try rfl) (by rfl) (by simp) (by rfl), _, 0, jn [] (depsL l id), rfl, ?_, rfl⟩
  ·exact ⟨by omega, jn_P ⟨List.Pairwise.nil, by simp⟩ (zho hp id), rfl⟩
 ·rintro mM sS ⟨r, o, rfl, ⟨hr, ho, hrc⟩, rfl⟩
  have hol := zt7 ho
  refine zbt ?_
  refine AW_r rfl rfl fun K hK => ?_
  simp (disch := omega) [zbd, gE, tP, DtId.cells]
  repeat' first | (refine zhm (zbg (zdw (.inl rfl) (by simp) rfl) (zbg zca zbr)) (zfc [] (depsL l id) (by simp) (Nat.le_trans (zcr hp id) (by omega))) (fun h => by cases h) ?_; try simp (disch := omega) [zbd, gE, tP, DtId.cells]) | (refine ⟨by omega, ?_⟩) | (intro _)
  refine hK _ ?_; clear hK K
  refine zbv rfl (fun hc3 => ?_) (fun hc3 => ?_)
  ·try simp [zbb, zba, zbf, zbe, zbp, zbq] at hc3
   all_goals
    refine zbw ?_
    refine zb3 ?_
    refine zbt ?_
    refine zb0 ?_
    refine AW_r rfl rfl fun K hK => ?_
    simp (disch := omega) [zbd, gE, tP, DtId.cells]
    repeat' first | (exfalso; omega) | (refine zhm (zbg (zdw (.inl rfl) (by simp) rfl) (zbg zca zbr)) (zfc [] (depsL l id) (by simp) (Nat.le_trans (zcr hp id) (by omega))) (fun h => by cases h) ?_; try simp (disch := omega) [zbd, gE, tP, DtId.cells]) | (refine ⟨fun _ => ?_, fun _ => ?_⟩) | (refine ⟨by omega, ?_⟩) | (intro _)
    all_goals (refine hK _ ?_; clear hK K)
    all_goals
     refine zbt ?_
     refine AW_r rfl rfl fun K hK => ?_
     simp (disch := omega) [zbd, gE, tP, DtId.cells]
     repeat' first | (refine zhm (zbg (zdw (.inl rfl) (by simp) rfl) (zbg zca zbr)) (zfc [] (depsL l id) (by simp) (Nat.le_trans (zcr hp id) (by omega))) (fun h => by cases h) ?_; try simp (disch := omega) [zbd, gE, tP, DtId.cells]) | (refine ⟨by omega, ?_⟩) | (intro _)
     refine hK _ ?_; clear hK K
     refine zb0 ?_
     refine zcc (fun mM sS => ∃ (i : Nat), mM = o.length - i ∧ (i ≤ o.length ∧ (Srt (rdT l o i) ∧ ∀ x ∈ rdT l o i, IdP x)) ∧ sS = { env := lkE [(0, .sl 16 (l.map DtInst.cells)), (3, .ptr 64 0), (5, .sl 2 (o.map DtId.cells)), (6, (.g (.int .i64 ((r : Nat))))), (7, .sl 2 ((rdT l o i).map DtId.cells)), (8, (.g (.int .i64 ((i : Nat)))))], ob := lk [(64, .cells (DtId.cells id))] }) ?_ ?_
     ·refine ⟨_, LeS.ko [(0, .sl 16 (l.map DtInst.cells)), (3, .ptr 64 0), (5, .sl 2 (o.map DtId.cells)), (6, (.g (.int .i64 ((r : Nat))))), (7, .sl 2 ((rdT l o (0)).map DtId.cells)), (8, (.g (.int .i64 (((0) : Nat)))))] [(64, .cells (DtId.cells id))] (by simp [KpE, zbn, zb4, zbk, DtId.cells, zz4]; try (rw [hs]; done)) (by simp [KpO, zbn, zbk, zbx, zcf, DtId.cells, zz4]; try rfl) (by rfl) (by simp) (by rfl), _, 0, rfl, ?_, rfl⟩
      ·exact ⟨by omega, by rw [zz4]; exact ho⟩
     ·rintro mM sS ⟨i, rfl, ⟨hi, hnx⟩, rfl⟩
      have hnl := zt7 hnx
      refine zbt ?_
      refine AW_r rfl rfl fun K hK => ?_
      simp (disch := omega) [zbd, gE, tP, DtId.cells]
      repeat' first | (refine zhm (zbg (zdw (.inl rfl) (by simp) rfl) (zbg zca zbr)) (zfc [] (depsL l id) (by simp) (Nat.le_trans (zcr hp id) (by omega))) (fun h => by cases h) ?_; try simp (disch := omega) [zbd, gE, tP, DtId.cells]) | (refine ⟨by omega, ?_⟩) | (intro _)
      refine hK _ ?_; clear hK K
      refine zbv rfl (fun hc4 => ?_) (fun hc4 => ?_)
      ·try simp [zbb, zba, zbf, zbe, zbp, zbq] at hc4
       all_goals
        have hs := rdT_s l o i (by omega)
        refine zbw ?_
        refine zb3 ?_
        refine zbt ?_
        refine zb0 ?_
        refine zdf rfl rfl fun K hK => ?_
        simp (disch := omega) [zbd, gE, tP, DtId.cells]
        repeat' first | (exfalso; omega) | (refine zhm (zbg (zdw (.inl rfl) (by simp) rfl) (zbg zca zbr)) (zfc [] (depsL l id) (by simp) (Nat.le_trans (zcr hp id) (by omega))) (fun h => by cases h) ?_; try simp (disch := omega) [zbd, gE, tP, DtId.cells]) | (refine zck (zbg zca (zbg (zb6 rfl) zbr)) (zs1 _ _ (by assumption) (by assumption)) rfl ?_; simp (disch := omega) [zbd, gE, tP, DtId.cells]) | (refine zck (zbg zca (zbg zca zbr)) (zfc _ _ (by omega) (Nat.le_trans (zcr hp _) (by omega))) rfl ?_; simp (disch := omega) [zbd, gE, tP, DtId.cells]) | (refine ⟨fun _ => ?_, fun _ => ?_⟩) | (refine ⟨by omega, ?_⟩) | (intro _)
        all_goals (refine hK _ ?_; clear hK K)
        all_goals
         refine zb3 ?_
         refine zdf rfl rfl fun K hK => ?_
         simp (disch := omega) [zbd, gE, tP, DtId.cells]
         repeat' first | (refine zhm (zbg (zdw (.inl rfl) (by simp) rfl) (zbg zca zbr)) (zfc [] (depsL l id) (by simp) (Nat.le_trans (zcr hp id) (by omega))) (fun h => by cases h) ?_; try simp (disch := omega) [zbd, gE, tP, DtId.cells]) | (refine ⟨by omega, ?_⟩) | (intro _)
         refine hK _ ?_; clear hK K
         refine ⟨_, LeS.ko [(0, .sl 16 (l.map DtInst.cells)), (3, .ptr 64 0), (5, .sl 2 (o.map DtId.cells)), (6, (.g (.int .i64 ((r : Nat))))), (7, .sl 2 ((rdT l o (i + 1)).map DtId.cells)), (8, (.g (.int .i64 (((i + 1) : Nat)))))] [(64, .cells (DtId.cells id))] (by simp [KpE, zbn, zb4, zbk, DtId.cells, zz4]; try (rw [hs]; done)) (by simp [KpO, zbn, zbk, zbx, zcf, DtId.cells, zz4]; try rfl) (by rfl) (by simp) (by rfl), _, ?_, i + 1, rfl, ?_, rfl⟩
         ·omega
         ·refine ⟨by omega, ?_⟩; rw [hs]; exact jn_P hnx (zho hp _)
      ·try simp [zbb, zba, zbf, zbe, zbp, zbq] at hc4
       all_goals
        have he := rdT_e l o i (by omega)
        have hst := zz3 l r (by omega) o
        refine zce ?_
        refine zb3 ?_
        refine zbt ?_
        refine AW_r rfl rfl fun K hK => ?_
        simp (disch := omega) [zbd, gE, tP, DtId.cells]
        repeat' first | (exfalso; omega) | (refine zhm (zbg (zdw (.inl rfl) (by simp) rfl) (zbg zca zbr)) (zfc [] (depsL l id) (by simp) (Nat.le_trans (zcr hp id) (by omega))) (fun h => by cases h) ?_; try simp (disch := omega) [zbd, gE, tP, DtId.cells]) | (refine ⟨fun _ => ?_, fun _ => ?_⟩) | (refine ⟨by omega, ?_⟩) | (intro _)
        all_goals (refine hK _ ?_; clear hK K)
        all_goals
         refine zbv rfl (fun hc5 => ?_) (fun hc5 => ?_)
         ·try simp [zbb, zba, zbf, zbe, zbp, zbq] at hc5
          all_goals
           refine AW_r rfl rfl fun K hK => ?_
           simp (disch := omega) [zbd, gE, tP, DtId.cells]
           repeat' first | (exfalso; omega) | (refine zhm (zbg (zdw (.inl rfl) (by simp) rfl) (zbg zca zbr)) (zfc [] (depsL l id) (by simp) (Nat.le_trans (zcr hp id) (by omega))) (fun h => by cases h) ?_; try simp (disch := omega) [zbd, gE, tP, DtId.cells]) | (refine ⟨fun _ => ?_, fun _ => ?_⟩) | (refine ⟨by omega, ?_⟩) | (intro _)
           all_goals (refine hK _ ?_; clear hK K)
           all_goals
            refine zbz (zcb ?_)
            simp (disch := omega) [zbd, gE, tP, DtId.cells]
            all_goals first | (rw [← hrc, hst.1 (by rw [← he]; omega)]; done) | ((have e : r = 18 := by omega); subst e; rw [← hrc]; simp [rchL]; done) | trace_state
         ·try simp [zbb, zba, zbf, zbe, zbp, zbq] at hc5
          all_goals
           refine zbw ?_
           refine zb3 ?_
           refine zdf rfl rfl fun K hK => ?_
           simp (disch := omega) [zbd, gE, tP, DtId.cells]
           repeat' first | (exfalso; omega) | (refine zhm (zbg (zdw (.inl rfl) (by simp) rfl) (zbg zca zbr)) (zfc [] (depsL l id) (by simp) (Nat.le_trans (zcr hp id) (by omega))) (fun h => by cases h) ?_; try simp (disch := omega) [zbd, gE, tP, DtId.cells]) | (refine ⟨fun _ => ?_, fun _ => ?_⟩) | (refine ⟨by omega, ?_⟩) | (intro _)
           all_goals (refine hK _ ?_; clear hK K)
           all_goals
            refine zb3 ?_
            refine zdf rfl rfl fun K hK => ?_
            simp (disch := omega) [zbd, gE, tP, DtId.cells]
            repeat' first | (refine zhm (zbg (zdw (.inl rfl) (by simp) rfl) (zbg zca zbr)) (zfc [] (depsL l id) (by simp) (Nat.le_trans (zcr hp id) (by omega))) (fun h => by cases h) ?_; try simp (disch := omega) [zbd, gE, tP, DtId.cells]) | (refine ⟨by omega, ?_⟩) | (intro _)
            refine hK _ ?_; clear hK K
            refine ⟨_, LeS.ko [(0, .sl 16 (l.map DtInst.cells)), (3, .ptr 64 0), (5, .sl 2 ((rndL l o).map DtId.cells)), (6, (.g (.int .i64 (((r + 1) : Nat)))))] [(64, .cells (DtId.cells id))] (by simp [KpE, zbn, zb4, zbk, DtId.cells]; try (rw [he]; done)) (by simp [KpO, zbn, zbk, zbx, zcf, DtId.cells]; try rfl) (by rfl) (by simp) (by rfl), _, ?_, r + 1, rndL l o, rfl, ?_, rfl⟩
            ·omega
            ·refine ⟨by omega, by rw [← he]; exact hnx, ?_⟩; rw [← hst.2 (by rw [← he]; omega)]; exact hrc
  ·try simp [zbb, zba, zbf, zbe, zbp, zbq] at hc3
   all_goals
    refine zce ?_
    refine zb3 ?_
    refine AW_r rfl rfl fun K hK => ?_
    simp (disch := omega) [zbd, gE, tP, DtId.cells]
    repeat' first | (exfalso; omega) | (refine zhm (zbg (zdw (.inl rfl) (by simp) rfl) (zbg zca zbr)) (zfc [] (depsL l id) (by simp) (Nat.le_trans (zcr hp id) (by omega))) (fun h => by cases h) ?_; try simp (disch := omega) [zbd, gE, tP, DtId.cells]) | (refine ⟨fun _ => ?_, fun _ => ?_⟩) | (refine ⟨by omega, ?_⟩) | (intro _)
    all_goals (refine hK _ ?_; clear hK K)
    all_goals
     refine zbz (zcb ?_)
     simp (disch := omega) [zbd, gE, tP, DtId.cells]
     all_goals first | (rw [← hrc, hst.1 (by rw [← he]; omega)]; done) | ((have e : r = 18 := by omega); subst e; rw [← hrc]; simp [rchL]; done) | trace_state
def RdyP (l : List DtInst) (id : DtId) : Prop := ¬ cAt l id < 0 ∧ ∀ (j : Nat) x, (reachL l id)[j]? = some x → ¬ cAt l x < 0
theorem zt8 (l : List DtInst) (id : DtId) (hn : l.length ≤ 1048576) (hp : InstsP l) : PCall Try.prog 19 [.sl 16 (l.map DtInst.cells), .agg (DtId.cells id)] (.g (.bool (decB (RdyP l id)))) := by
 have hrl : (reachL l id).length ≤ 18 := by
  have := zc9 hp id
  exact zt7 ⟨this.1, fun x hx => zs0 hp ((this.2 x).1 hx)⟩
 refine zbu Try.func19 (by rfl) (by rfl) (by rw [Try.ntmps19]; exact Nat.le_of_ble_eq_true rfl) rfl (by decide) ?_
 rw [Try.ntmps19]
 refine AW_k [(0, _), (1, _)] ⟨rfl, rfl, trivial⟩ ?_
 refine AW_r rfl rfl fun K hK => ?_
 simp (disch := omega) [zbd, gE, tP, DtId.cells, zbb, zba]
 repeat' first | (refine ⟨by omega, ?_⟩) | (intro _)
 refine hK _ ?_; clear hK K
 refine zbt ?_
 refine AW_r rfl rfl fun K hK => ?_
 simp (disch := omega) [zbd, gE, tP, DtId.cells, zbb, zba]
 repeat' first | (exfalso; omega) | (refine zck (zbg zca (zbg (zb6 rfl) zbr)) (zjt _ _ (by assumption)) rfl ?_; simp (disch := omega) [zbd, gE, tP, DtId.cells, zbb, zba]) | (refine ⟨by omega, ?_⟩) | (intro _)
 refine hK _ ?_; clear hK K
 refine zbv rfl (fun hc6 => ?_) (fun hc6 => ?_)
 ·try simp [zbb, zba, zbf, zbe, zbp, zbq] at hc6
  all_goals
   refine AW_r rfl rfl fun K hK => ?_
   simp (disch := omega) [zbd, gE, tP, DtId.cells, zbb, zba]
   repeat' first | (exfalso; omega) | (refine ⟨fun _ => ?_, fun _ => ?_⟩) | (refine ⟨by omega, ?_⟩) | (intro _)
   all_goals (refine hK _ ?_; clear hK K)
   all_goals
    refine zbz (zcb ?_)
    simp (disch := omega) [zbd, gE, tP, DtId.cells, zbb, zba]
    all_goals first | grind [RdyP] | (refine zcx fun h => ?_; grind [RdyP]) | (refine zco ?_; grind [RdyP]) | trace_state
 ·try simp [zbb, zba, zbf, zbe, zbp, zbq] at hc6
  all_goals
   refine zbw ?_
   refine zb3 ?_
   refine AW_r rfl rfl fun K hK => ?_
   simp (disch := omega) [zbd, gE, tP, DtId.cells, zbb, zba]
   repeat' first | (exfalso; omega) | (refine zck (zbg zca (zbg (zb6 rfl) zbr)) (zh6 _ _ (by assumption) (by assumption)) rfl ?_; simp (disch := omega) [zbd, gE, tP, DtId.cells, zbb, zba]) | (refine ⟨fun _ => ?_, fun _ => ?_⟩) | (refine ⟨by omega, ?_⟩) | (intro _)
   all_goals (refine hK _ ?_; clear hK K)
   all_goals
    refine zbt ?_
    refine AW_r rfl rfl fun K hK => ?_
    simp (disch := omega) [zbd, gE, tP, DtId.cells, zbb, zba]
    repeat' first | (refine ⟨by omega, ?_⟩) | (intro _)
    refine hK _ ?_; clear hK K
    refine zb0 ?_
    refine zcc (fun mM sS => ∃ (i : Nat), mM = (reachL l id).length - i ∧ (i ≤ (reachL l id).length ∧ ∀ (j : Nat) x, j < i → (reachL l id)[j]? = some x → ¬ cAt l x < 0) ∧ sS = { env := lkE [(0, .sl 16 (l.map DtInst.cells)), (3, .ptr 64 0), (5, .sl 2 ((reachL l id).map DtId.cells)), (6, (.g (.int .i64 ((i : Nat)))))], ob := lk [(64, .cells (DtId.cells id))] }) ?_ ?_
    ·refine ⟨_, LeS.ko [(0, .sl 16 (l.map DtInst.cells)), (3, .ptr 64 0), (5, .sl 2 ((reachL l id).map DtId.cells)), (6, (.g (.int .i64 (((0) : Nat)))))] [(64, .cells (DtId.cells id))] (by simp [KpE, zbn, zb4, zbk, DtId.cells]; try rfl) (by simp [KpO, zbn, zbk, zbx, zcf, DtId.cells]; try rfl) (by rfl) (by simp) (by rfl), _, 0, rfl, ?_, rfl⟩
     ·simp
    ·rintro mM sS ⟨i, rfl, ⟨hi, hpre⟩, rfl⟩
     refine zbt ?_
     refine AW_r rfl rfl fun K hK => ?_
     simp (disch := omega) [zbd, gE, tP, DtId.cells, zbb, zba]
     repeat' first | (refine ⟨by omega, ?_⟩) | (intro _)
     refine hK _ ?_; clear hK K
     refine zbv rfl (fun hc7 => ?_) (fun hc7 => ?_)
     ·try simp [zbb, zba, zbf, zbe, zbp, zbq] at hc7
      all_goals
       have hg : (reachL l id)[i]? = some (reachL l id)[i] := List.getElem?_eq_getElem (by omega)
       refine zbw ?_
       refine zb3 ?_
       refine zbt ?_
       refine zb0 ?_
       refine AW_r rfl rfl fun K hK => ?_
       simp (disch := omega) [zbd, gE, tP, DtId.cells, zbb, zba]
       repeat' first | (exfalso; omega) | (refine zck (zbg zca (zbg (zb6 rfl) zbr)) (zjt _ _ (by assumption)) rfl ?_; simp (disch := omega) [zbd, gE, tP, DtId.cells, zbb, zba]) | (refine ⟨fun _ => ?_, fun _ => ?_⟩) | (refine ⟨by omega, ?_⟩) | (intro _)
       all_goals (refine hK _ ?_; clear hK K)
       all_goals
        refine zbv rfl (fun hc8 => ?_) (fun hc8 => ?_)
        ·try simp [zbb, zba, zbf, zbe, zbp, zbq] at hc8
         all_goals
          refine AW_r rfl rfl fun K hK => ?_
          simp (disch := omega) [zbd, gE, tP, DtId.cells, zbb, zba]
          repeat' first | (exfalso; omega) | (refine ⟨fun _ => ?_, fun _ => ?_⟩) | (refine ⟨by omega, ?_⟩) | (intro _)
          all_goals (refine hK _ ?_; clear hK K)
          all_goals
           refine zbz (zcb ?_)
           simp (disch := omega) [zbd, gE, tP, DtId.cells, zbb, zba]
           all_goals first | grind [RdyP] | (refine zcx fun h => ?_; grind [RdyP]) | (refine zco ?_; grind [RdyP]) | trace_state
        ·try simp [zbb, zba, zbf, zbe, zbp, zbq] at hc8
         all_goals
          refine zbw ?_
          refine zb3 ?_
          refine zdf rfl rfl fun K hK => ?_
          simp (disch := omega) [zbd, gE, tP, DtId.cells, zbb, zba]
          repeat' first | (exfalso; omega) | (refine ⟨fun _ => ?_, fun _ => ?_⟩) | (refine ⟨by omega, ?_⟩) | (intro _)
          all_goals (refine hK _ ?_; clear hK K)
          all_goals
           refine ⟨_, LeS.ko [(0, .sl 16 (l.map DtInst.cells)), (3, .ptr 64 0), (5, .sl 2 ((reachL l id).map DtId.cells)), (6, (.g (.int .i64 (((i + 1) : Nat)))))] [(64, .cells (DtId.cells id))] (by simp [KpE, zbn, zb4, zbk, DtId.cells]; try rfl) (by simp [KpO, zbn, zbk, zbx, zcf, DtId.cells]; try rfl) (by rfl) (by simp) (by rfl), _, ?_, i + 1, rfl, ?_, rfl⟩
           ·omega
           ·refine ⟨by omega, ?_⟩; grind
     ·try simp [zbb, zba, zbf, zbe, zbp, zbq] at hc7
      all_goals
       refine zce ?_
       refine zb3 ?_
       refine AW_r rfl rfl fun K hK => ?_
       simp (disch := omega) [zbd, gE, tP, DtId.cells, zbb, zba]
       repeat' first | (exfalso; omega) | (refine ⟨fun _ => ?_, fun _ => ?_⟩) | (refine ⟨by omega, ?_⟩) | (intro _)
       all_goals (refine hK _ ?_; clear hK K)
       all_goals
        refine zbz (zcb ?_)
        simp (disch := omega) [zbd, gE, tP, DtId.cells, zbb, zba]
        all_goals first | grind [RdyP] | (refine zcx fun h => ?_; grind [RdyP]) | (refine zco ?_; grind [RdyP]) | trace_state
end Go.Proofs.Ytfbmhgiokfpgiaa.Vs

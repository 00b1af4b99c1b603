import Derived.Test.YtfbmhgiokfpgiaaSJnQ
open Go Go.Proofs Go.Proofs.Ytfbmhgiokfpgiaa.Vs
namespace Go.Proofs.Ytfbmhgiokfpgiaa.Vs
set_option linter.all false
set_option linter.unusedSimpArgs false
set_option linter.unusedVariables false
set_option maxRecDepth 100000
theorem zh6 {l : List DtInst} {id : DtId} (h : (instAt l id).fStatus ≠ 3) : depsL l id = [] := by
 unfold depsL; rw [if_neg h]
theorem zti {l : List DtInst} {id : DtId} {x : DtInst} (h : instAt l id = x) (h3 : x.fStatus = 3) : depsL l id = x.fDeps := by
 unfold depsL; rw [h, if_pos h3]
theorem zcq {l : List DtInst} (h : InstsP l) (id : DtId) : (depsL l id).length ≤ 18 := by
 have := (zgr _).1 (zg0 h id)
 exact zm0 (zpk this.2) this.1
theorem zw3 (l : List DtInst) (id : DtId) (hn : l.length ≤ 1048576) (hp : InstsP l) : PCall Try.prog 53 [.sl 16 (l.map DtInst.cells), .agg (DtId.cells id)] (.sl 2 ((depsL l id).map DtId.cells)) := by
 rcases zr8 hp id with ⟨h1, h2, h3⟩ | ⟨i, hi, h1, h2, h3, h4⟩
 ·have hd := zh6 h3
  refine zbq Try.func53 (by rfl) (by rfl) (by rw [Try.ntmps53]; exact Nat.le_of_ble_eq_true rfl) rfl (by decide) ?_
  rw [Try.ntmps53]
  refine AW_k [(0, _), (1, _)] ⟨rfl, rfl, trivial⟩ ?_
  refine AW_r rfl rfl fun K hK => ?_
  simp (disch := omega) [zbc, gE, tP, DtInst.cells, DtCmd.cells, DtId.cells, h2, hd]
  repeat' first | (refine ⟨by omega, ?_⟩) | (intro _)
  refine hK _ ?_; clear hK K
  refine AW_r rfl rfl fun K hK => ?_
  simp (disch := omega) [zbc, gE, tP, DtInst.cells, DtCmd.cells, DtId.cells, h2, hd]
  repeat' first | (exfalso; omega) | (refine zcj (zbg zb9 (zbg (zb6 rfl) zbn)) (zmz _ _ (by assumption)) rfl ?_; simp (disch := omega) [zbc, gE, tP, DtInst.cells, DtCmd.cells, DtId.cells, h2, hd]) | (refine ⟨by omega, ?_⟩) | (intro _)
  refine hK _ ?_; clear hK K
  refine zbo ?_
  refine AW_r rfl rfl fun K hK => ?_
  simp (disch := omega) [zbc, gE, tP, DtInst.cells, DtCmd.cells, DtId.cells, h2, hd]
  repeat' first | (refine ⟨by omega, ?_⟩) | (intro _)
  refine hK _ ?_; clear hK K
  refine zbr rfl (fun hc1 => ?_) (fun hc1 => ?_)
  ·try simp [zba, zbb, zbf, zbe, zbm, zbp] at hc1
   all_goals
    refine AW_r rfl rfl fun K hK => ?_
    simp (disch := omega) [zbc, gE, tP, DtInst.cells, DtCmd.cells, DtId.cells, h2, hd]
    repeat' first | (exfalso; omega) | (refine ⟨fun _ => ?_, fun _ => ?_⟩) | (refine ⟨by omega, ?_⟩) | (intro _)
    all_goals (refine hK _ ?_; clear hK K)
    all_goals
     refine zbt (zb4 ?_)
     simp (disch := omega) [zbc, gE, tP, DtInst.cells, DtCmd.cells, DtId.cells, h2, hd]
     all_goals simp
  ·try simp [zba, zbb, zbf, zbe, zbm, zbp] at hc1
   all_goals
    refine zbs ?_
    refine zbx ?_
    refine AW_r rfl rfl fun K hK => ?_
    simp (disch := omega) [zbc, gE, tP, DtInst.cells, DtCmd.cells, DtId.cells, h2, hd]
    repeat' first | (exfalso; omega) | (refine ⟨fun _ => ?_, fun _ => ?_⟩) | (refine ⟨by omega, ?_⟩) | (intro _)
    all_goals (refine hK _ ?_; clear hK K)
    all_goals
     refine zbt (zb4 ?_)
     simp (disch := omega) [zbc, gE, tP, DtInst.cells, DtCmd.cells, DtId.cells, h2, hd]
     all_goals simp
 ·have hd := zti h4 h3
  refine zbq Try.func53 (by rfl) (by rfl) (by rw [Try.ntmps53]; exact Nat.le_of_ble_eq_true rfl) rfl (by decide) ?_
  rw [Try.ntmps53]
  refine AW_k [(0, _), (1, _)] ⟨rfl, rfl, trivial⟩ ?_
  refine AW_r rfl rfl fun K hK => ?_
  simp (disch := omega) [zbc, gE, tP, DtInst.cells, DtCmd.cells, DtId.cells, h1, hd]
  repeat' first | (refine ⟨by omega, ?_⟩) | (intro _)
  refine hK _ ?_; clear hK K
  refine AW_r rfl rfl fun K hK => ?_
  simp (disch := omega) [zbc, gE, tP, DtInst.cells, DtCmd.cells, DtId.cells, h1, hd]
  repeat' first | (exfalso; omega) | (refine zcj (zbg zb9 (zbg (zb6 rfl) zbn)) (zmz _ _ (by assumption)) rfl ?_; simp (disch := omega) [zbc, gE, tP, DtInst.cells, DtCmd.cells, DtId.cells, h1, hd]) | (refine ⟨by omega, ?_⟩) | (intro _)
  refine hK _ ?_; clear hK K
  refine zbo ?_
  refine AW_r rfl rfl fun K hK => ?_
  simp (disch := omega) [zbc, gE, tP, DtInst.cells, DtCmd.cells, DtId.cells, h1, hd]
  repeat' first | (refine ⟨by omega, ?_⟩) | (intro _)
  refine hK _ ?_; clear hK K
  refine zbr rfl (fun hc2 => ?_) (fun hc2 => ?_)
  ·try simp [zba, zbb, zbf, zbe, zbm, zbp] at hc2
   all_goals
    refine AW_r rfl rfl fun K hK => ?_
    simp (disch := omega) [zbc, gE, tP, DtInst.cells, DtCmd.cells, DtId.cells, h1, hd]
    repeat' first | (exfalso; omega) | (refine ⟨fun _ => ?_, fun _ => ?_⟩) | (refine ⟨by omega, ?_⟩) | (intro _)
    all_goals (refine hK _ ?_; clear hK K)
    all_goals
     refine zbt (zb4 ?_)
     simp (disch := omega) [zbc, gE, tP, DtInst.cells, DtCmd.cells, DtId.cells, h1, hd]
     all_goals simp
  ·try simp [zba, zbb, zbf, zbe, zbm, zbp] at hc2
   all_goals
    refine zbs ?_
    refine zbx ?_
    refine AW_r rfl rfl fun K hK => ?_
    simp (disch := omega) [zbc, gE, tP, DtInst.cells, DtCmd.cells, DtId.cells, h1, hd]
    repeat' first | (exfalso; omega) | (refine ⟨fun _ => ?_, fun _ => ?_⟩) | (refine ⟨by omega, ?_⟩) | (intro _)
    all_goals (refine hK _ ?_; clear hK K)
    all_goals
     refine zbt (zb4 ?_)
     simp (disch := omega) [zbc, gE, tP, DtInst.cells, DtCmd.cells, DtId.cells, h1, hd]
     all_goals simp
theorem zw4 (l : List DtInst) (r : Nat) (hr : r < 18) (o : List DtId) : ((rndL l o).length = o.length → rchL l (18 - r) o = o) ∧ (¬ (rndL l o).length = o.length → rchL l (18 - r) o = rchL l (18 - (r + 1)) (rndL l o)) := by
 rw [show 18 - r = (18 - (r + 1)) + 1 by omega, rchL]
 exact ⟨fun h => if_pos h, fun h => if_neg h⟩
noncomputable def rdT (l : List DtInst) (o : List DtId) (i : Nat) : List DtId := (o.take i).foldl (fun nx x => jn nx (depsL l x)) o
theorem rdT_s (l : List DtInst) (o : List DtId) (i : Nat) (h : i < o.length) : rdT l o (i + 1) = jn (rdT l o i) (depsL l o[i]) := by
 unfold rdT; rw [List.take_succ_eq_append_getElem h, List.foldl_append]; rfl
theorem rdT_e (l : List DtInst) (o : List DtId) (i : Nat) (h : o.length ≤ i) : rdT l o i = rndL l o := by
 unfold rdT rndL; rw [List.take_of_length_le h]
theorem zw5 (l : List DtInst) (o : List DtId) : rdT l o 0 = o := by unfold rdT; simp
theorem jn_P {a b : List DtId} (ha : Srt a ∧ ∀ x ∈ a, IdP x) (hb : IdsP b) : Srt (jn a b) ∧ ∀ x ∈ jn a b, IdP x := by
 have hb := (zgr _).1 hb
 obtain ⟨h1, h2⟩ := zm1 b a ha.1 hb.2
 refine ⟨h1, fun x hx => ?_⟩
 rcases (h2 x).1 hx with h | h
 ·exact ha.2 x h
 ·exact hb.1 x h
theorem zr9 {a : List DtId} (ha : Srt a ∧ ∀ x ∈ a, IdP x) : a.length ≤ 18 := zm0 (zpk ha.1) ha.2
theorem l12Reach (l : List DtInst) (id : DtId) (hn : l.length ≤ 1048576) (hp : InstsP l) : PCall Try.prog 36 [.sl 16 (l.map DtInst.cells), .agg (DtId.cells id)] (.sl 2 ((reachL l id).map DtId.cells)) := by
 refine zbq Try.func36 (by rfl) (by rfl) (by rw [Try.ntmps36]; exact Nat.le_of_ble_eq_true rfl) rfl (by decide) ?_
 rw [Try.ntmps36]
 refine AW_k [(0, _), (1, _)] ⟨rfl, rfl, trivial⟩ ?_
 refine AW_r rfl rfl fun K hK => ?_
 simp (disch := omega) [zbc, gE, tP, DtId.cells]
 repeat' first | (refine zgz (zbg (zde (.inl rfl) (by simp) rfl) (zbg zb9 zbn)) (zdx [] (depsL l id) (by simp) (Nat.le_trans (zcq hp id) (by omega))) (fun h => by cases h) ?_; try simp (disch := omega) [zbc, gE, tP, DtId.cells]) | (refine ⟨by omega, ?_⟩) | (intro _)
 refine hK _ ?_; clear hK K
 refine AW_r rfl rfl fun K hK => ?_
 simp (disch := omega) [zbc, gE, tP, DtId.cells]
 repeat' first | (exfalso; omega) | (refine zgz (zbg (zde (.inl rfl) (by simp) rfl) (zbg zb9 zbn)) (zdx [] (depsL l id) (by simp) (Nat.le_trans (zcq hp id) (by omega))) (fun h => by cases h) ?_; try simp (disch := omega) [zbc, gE, tP, DtId.cells]) | (refine zcj (zbg zb9 (zbg (zb6 rfl) zbn)) (zw3 _ _ (by assumption) (by assumption)) rfl ?_; simp (disch := omega) [zbc, gE, tP, DtId.cells]) | (refine zcj (zbg zb9 (zbg zb9 zbn)) (zdx _ _ (by omega) (Nat.le_trans (zcq hp _) (by omega))) rfl ?_; simp (disch := omega) [zbc, gE, tP, DtId.cells]) | (refine ⟨by omega, ?_⟩) | (intro _)
 refine hK _ ?_; clear hK K
 refine zbo ?_
 refine AW_r rfl rfl fun K hK => ?_
 simp (disch := omega) [zbc, gE, tP, DtId.cells]
 repeat' first | (refine zgz (zbg (zde (.inl rfl) (by simp) rfl) (zbg zb9 zbn)) (zdx [] (depsL l id) (by simp) (Nat.le_trans (zcq hp id) (by omega))) (fun h => by cases h) ?_; try simp (disch := omega) [zbc, gE, tP, DtId.cells]) | (refine ⟨by omega, ?_⟩) | (intro _)
 refine hK _ ?_; clear hK K
 refine zbw ?_
 refine zcb (fun mM sS => ∃ (r : Nat) (o : List DtId), mM = 18 - r ∧ (r ≤ 18 ∧ (Srt o ∧ ∀ x ∈ o, IdP x) ∧ rchL l (18 - r) o = reachL l id) ∧ sS = { env := lkE [(0, .sl 16 (l.map DtInst.cells)), (3, .ptr 64 0), (5, .sl 2 (o.map DtId.cells)), (6, (.g (.int .i64 ((r : Nat)))))], ob := lk [(64, .cells (DtId.cells id))] }) ?_ ?_
 ·refine ⟨_, LeS.ko [(0, .sl 16 (l.map DtInst.cells)), (3, .ptr 64 0), (5, .sl 2 ((jn [] (depsL l id)).map DtId.cells)), (6, (.g (.int .i64 (((0) : Nat)))))] [(64, .cells (DtId.cells id))] (by simp [KpE, zbl, zbz, zbj, DtId.cells]; try (rw [he]; done)) (by simp [KpO, zbl, zbj, zbu, zcg, DtId.cells]; try rfl) (by rfl) (by simp) (by rfl), _, 0, jn [] (depsL l id), rfl, ?_, rfl⟩
  ·exact ⟨by omega, jn_P ⟨List.Pairwise.nil, by simp⟩ (zg0 hp id), rfl⟩
 ·rintro mM sS ⟨r, o, rfl, ⟨hr, ho, hrc⟩, rfl⟩
  have hol := zr9 ho
  refine zbo ?_
  refine AW_r rfl rfl fun K hK => ?_
  simp (disch := omega) [zbc, gE, tP, DtId.cells]
  repeat' first | (refine zgz (zbg (zde (.inl rfl) (by simp) rfl) (zbg zb9 zbn)) (zdx [] (depsL l id) (by simp) (Nat.le_trans (zcq hp id) (by omega))) (fun h => by cases h) ?_; try simp (disch := omega) [zbc, gE, tP, DtId.cells]) | (refine ⟨by omega, ?_⟩) | (intro _)
  refine hK _ ?_; clear hK K
  refine zbr rfl (fun hc3 => ?_) (fun hc3 => ?_)
  ·try simp [zba, zbb, zbf, zbe, zbm, zbp] at hc3
   all_goals
    refine zbs ?_
    refine zbx ?_
    refine zbo ?_
    refine zbw ?_
    refine AW_r rfl rfl fun K hK => ?_
    simp (disch := omega) [zbc, gE, tP, DtId.cells]
    repeat' first | (exfalso; omega) | (refine zgz (zbg (zde (.inl rfl) (by simp) rfl) (zbg zb9 zbn)) (zdx [] (depsL l id) (by simp) (Nat.le_trans (zcq hp id) (by omega))) (fun h => by cases h) ?_; try simp (disch := omega) [zbc, gE, tP, DtId.cells]) | (refine ⟨fun _ => ?_, fun _ => ?_⟩) | (refine ⟨by omega, ?_⟩) | (intro _)
    all_goals (refine hK _ ?_; clear hK K)
    all_goals
     refine zbo ?_
     refine AW_r rfl rfl fun K hK => ?_
     simp (disch := omega) [zbc, gE, tP, DtId.cells]
     repeat' first | (refine zgz (zbg (zde (.inl rfl) (by simp) rfl) (zbg zb9 zbn)) (zdx [] (depsL l id) (by simp) (Nat.le_trans (zcq hp id) (by omega))) (fun h => by cases h) ?_; try simp (disch := omega) [zbc, gE, tP, DtId.cells]) | (refine ⟨by omega, ?_⟩) | (intro _)
     refine hK _ ?_; clear hK K
     refine zbw ?_
     refine zcb (fun mM sS => ∃ (i : Nat), mM = o.length - i ∧ (i ≤ o.length ∧ (Srt (rdT l o i) ∧ ∀ x ∈ rdT l o i, IdP x)) ∧ sS = { env := lkE [(0, .sl 16 (l.map DtInst.cells)), (3, .ptr 64 0), (5, .sl 2 (o.map DtId.cells)), (6, (.g (.int .i64 ((r : Nat))))), (7, .sl 2 ((rdT l o i).map DtId.cells)), (8, (.g (.int .i64 ((i : Nat)))))], ob := lk [(64, .cells (DtId.cells id))] }) ?_ ?_
     ·refine ⟨_, LeS.ko [(0, .sl 16 (l.map DtInst.cells)), (3, .ptr 64 0), (5, .sl 2 (o.map DtId.cells)), (6, (.g (.int .i64 ((r : Nat))))), (7, .sl 2 ((rdT l o (0)).map DtId.cells)), (8, (.g (.int .i64 (((0) : Nat)))))] [(64, .cells (DtId.cells id))] (by simp [KpE, zbl, zbz, zbj, DtId.cells, zw5]; try (rw [hs]; done)) (by simp [KpO, zbl, zbj, zbu, zcg, DtId.cells, zw5]; try rfl) (by rfl) (by simp) (by rfl), _, 0, rfl, ?_, rfl⟩
      ·exact ⟨by omega, by rw [zw5]; exact ho⟩
     ·rintro mM sS ⟨i, rfl, ⟨hi, hnx⟩, rfl⟩
      have hnl := zr9 hnx
      refine zbo ?_
      refine AW_r rfl rfl fun K hK => ?_
      simp (disch := omega) [zbc, gE, tP, DtId.cells]
      repeat' first | (refine zgz (zbg (zde (.inl rfl) (by simp) rfl) (zbg zb9 zbn)) (zdx [] (depsL l id) (by simp) (Nat.le_trans (zcq hp id) (by omega))) (fun h => by cases h) ?_; try simp (disch := omega) [zbc, gE, tP, DtId.cells]) | (refine ⟨by omega, ?_⟩) | (intro _)
      refine hK _ ?_; clear hK K
      refine zbr rfl (fun hc4 => ?_) (fun hc4 => ?_)
      ·try simp [zba, zbb, zbf, zbe, zbm, zbp] at hc4
       all_goals
        have hs := rdT_s l o i (by omega)
        refine zbs ?_
        refine zbx ?_
        refine zbo ?_
        refine zbw ?_
        refine zc6 rfl rfl fun K hK => ?_
        simp (disch := omega) [zbc, gE, tP, DtId.cells]
        repeat' first | (exfalso; omega) | (refine zgz (zbg (zde (.inl rfl) (by simp) rfl) (zbg zb9 zbn)) (zdx [] (depsL l id) (by simp) (Nat.le_trans (zcq hp id) (by omega))) (fun h => by cases h) ?_; try simp (disch := omega) [zbc, gE, tP, DtId.cells]) | (refine zcj (zbg zb9 (zbg (zb6 rfl) zbn)) (zw3 _ _ (by assumption) (by assumption)) rfl ?_; simp (disch := omega) [zbc, gE, tP, DtId.cells]) | (refine zcj (zbg zb9 (zbg zb9 zbn)) (zdx _ _ (by omega) (Nat.le_trans (zcq hp _) (by omega))) rfl ?_; simp (disch := omega) [zbc, gE, tP, DtId.cells]) | (refine ⟨fun _ => ?_, fun _ => ?_⟩) | (refine ⟨by omega, ?_⟩) | (intro _)
        all_goals (refine hK _ ?_; clear hK K)
        all_goals
         refine zbx ?_
         refine zc6 rfl rfl fun K hK => ?_
         simp (disch := omega) [zbc, gE, tP, DtId.cells]
         repeat' first | (refine zgz (zbg (zde (.inl rfl) (by simp) rfl) (zbg zb9 zbn)) (zdx [] (depsL l id) (by simp) (Nat.le_trans (zcq hp id) (by omega))) (fun h => by cases h) ?_; try simp (disch := omega) [zbc, gE, tP, DtId.cells]) | (refine ⟨by omega, ?_⟩) | (intro _)
         refine hK _ ?_; clear hK K
         refine ⟨_, LeS.ko [(0, .sl 16 (l.map DtInst.cells)), (3, .ptr 64 0), (5, .sl 2 (o.map DtId.cells)), (6, (.g (.int .i64 ((r : Nat))))), (7, .sl 2 ((rdT l o (i + 1)).map DtId.cells)), (8, (.g (.int .i64 (((i + 1) : Nat)))))] [(64, .cells (DtId.cells id))] (by simp [KpE, zbl, zbz, zbj, DtId.cells, zw5]; try (rw [hs]; done)) (by simp [KpO, zbl, zbj, zbu, zcg, DtId.cells, zw5]; try rfl) (by rfl) (by simp) (by rfl), _, ?_, i + 1, rfl, ?_, rfl⟩
         ·omega
         ·refine ⟨by omega, ?_⟩; rw [hs]; exact jn_P hnx (zg0 hp _)
      ·try simp [zba, zbb, zbf, zbe, zbm, zbp] at hc4
       all_goals
        have he := rdT_e l o i (by omega)
        have hst := zw4 l r (by omega) o
        refine zce ?_
        refine zbx ?_
        refine zbo ?_
        refine AW_r rfl rfl fun K hK => ?_
        simp (disch := omega) [zbc, gE, tP, DtId.cells]
        repeat' first | (exfalso; omega) | (refine zgz (zbg (zde (.inl rfl) (by simp) rfl) (zbg zb9 zbn)) (zdx [] (depsL l id) (by simp) (Nat.le_trans (zcq hp id) (by omega))) (fun h => by cases h) ?_; try simp (disch := omega) [zbc, gE, tP, DtId.cells]) | (refine ⟨fun _ => ?_, fun _ => ?_⟩) | (refine ⟨by omega, ?_⟩) | (intro _)
        all_goals (refine hK _ ?_; clear hK K)
        all_goals
         refine zbr rfl (fun hc5 => ?_) (fun hc5 => ?_)
         ·try simp [zba, zbb, zbf, zbe, zbm, zbp] at hc5
          all_goals
           refine AW_r rfl rfl fun K hK => ?_
           simp (disch := omega) [zbc, gE, tP, DtId.cells]
           repeat' first | (exfalso; omega) | (refine zgz (zbg (zde (.inl rfl) (by simp) rfl) (zbg zb9 zbn)) (zdx [] (depsL l id) (by simp) (Nat.le_trans (zcq hp id) (by omega))) (fun h => by cases h) ?_; try simp (disch := omega) [zbc, gE, tP, DtId.cells]) | (refine ⟨fun _ => ?_, fun _ => ?_⟩) | (refine ⟨by omega, ?_⟩) | (intro _)
           all_goals (refine hK _ ?_; clear hK K)
           all_goals
            refine zbt (zb4 ?_)
            simp (disch := omega) [zbc, gE, tP, DtId.cells]
            all_goals first | (rw [← hrc, hst.1 (by rw [← he]; omega)]; done) | ((have e : r = 18 := by omega); subst e; rw [← hrc]; simp [rchL]; done) | trace_state
         ·try simp [zba, zbb, zbf, zbe, zbm, zbp] at hc5
          all_goals
           refine zbs ?_
           refine zbx ?_
           refine zc6 rfl rfl fun K hK => ?_
           simp (disch := omega) [zbc, gE, tP, DtId.cells]
           repeat' first | (exfalso; omega) | (refine zgz (zbg (zde (.inl rfl) (by simp) rfl) (zbg zb9 zbn)) (zdx [] (depsL l id) (by simp) (Nat.le_trans (zcq hp id) (by omega))) (fun h => by cases h) ?_; try simp (disch := omega) [zbc, gE, tP, DtId.cells]) | (refine ⟨fun _ => ?_, fun _ => ?_⟩) | (refine ⟨by omega, ?_⟩) | (intro _)
           all_goals (refine hK _ ?_; clear hK K)
           all_goals
            refine zbx ?_
            refine zc6 rfl rfl fun K hK => ?_
            simp (disch := omega) [zbc, gE, tP, DtId.cells]
            repeat' first | (refine zgz (zbg (zde (.inl rfl) (by simp) rfl) (zbg zb9 zbn)) (zdx [] (depsL l id) (by simp) (Nat.le_trans (zcq hp id) (by omega))) (fun h => by cases h) ?_; try simp (disch := omega) [zbc, gE, tP, DtId.cells]) | (refine ⟨by omega, ?_⟩) | (intro _)
            refine hK _ ?_; clear hK K
            refine ⟨_, LeS.ko [(0, .sl 16 (l.map DtInst.cells)), (3, .ptr 64 0), (5, .sl 2 ((rndL l o).map DtId.cells)), (6, (.g (.int .i64 (((r + 1) : Nat)))))] [(64, .cells (DtId.cells id))] (by simp [KpE, zbl, zbz, zbj, DtId.cells]; try (rw [he]; done)) (by simp [KpO, zbl, zbj, zbu, zcg, DtId.cells]; try rfl) (by rfl) (by simp) (by rfl), _, ?_, r + 1, rndL l o, rfl, ?_, rfl⟩
            ·omega
            ·refine ⟨by omega, by rw [← he]; exact hnx, ?_⟩; rw [← hst.2 (by rw [← he]; omega)]; exact hrc
  ·try simp [zba, zbb, zbf, zbe, zbm, zbp] at hc3
   all_goals
    refine zce ?_
    refine zbx ?_
    refine AW_r rfl rfl fun K hK => ?_
    simp (disch := omega) [zbc, gE, tP, DtId.cells]
    repeat' first | (exfalso; omega) | (refine zgz (zbg (zde (.inl rfl) (by simp) rfl) (zbg zb9 zbn)) (zdx [] (depsL l id) (by simp) (Nat.le_trans (zcq hp id) (by omega))) (fun h => by cases h) ?_; try simp (disch := omega) [zbc, gE, tP, DtId.cells]) | (refine ⟨fun _ => ?_, fun _ => ?_⟩) | (refine ⟨by omega, ?_⟩) | (intro _)
    all_goals (refine hK _ ?_; clear hK K)
    all_goals
     refine zbt (zb4 ?_)
     simp (disch := omega) [zbc, gE, tP, DtId.cells]
     all_goals first | (rw [← hrc, hst.1 (by rw [← he]; omega)]; done) | ((have e : r = 18 := by omega); subst e; rw [← hrc]; simp [rchL]; done) | trace_state
def RdyP (l : List DtInst) (id : DtId) : Prop := ¬ cAt l id < 0 ∧ ∀ (j : Nat) x, (reachL l id)[j]? = some x → ¬ cAt l x < 0
theorem zjz (l : List DtInst) (id : DtId) (hn : l.length ≤ 1048576) (hp : InstsP l) : PCall Try.prog 19 [.sl 16 (l.map DtInst.cells), .agg (DtId.cells id)] (.g (.bool (decB (RdyP l id)))) := by
 have hrl : (reachL l id).length ≤ 18 := by
  have := zg1 hp id
  exact zr9 ⟨this.1, fun x hx => zth hp ((this.2 x).1 hx)⟩
 refine zbq Try.func19 (by rfl) (by rfl) (by rw [Try.ntmps19]; exact Nat.le_of_ble_eq_true rfl) rfl (by decide) ?_
 rw [Try.ntmps19]
 refine AW_k [(0, _), (1, _)] ⟨rfl, rfl, trivial⟩ ?_
 refine AW_r rfl rfl fun K hK => ?_
 simp (disch := omega) [zbc, gE, tP, DtId.cells, zba, zbb]
 repeat' first | (refine ⟨by omega, ?_⟩) | (intro _)
 refine hK _ ?_; clear hK K
 refine zbo ?_
 refine AW_r rfl rfl fun K hK => ?_
 simp (disch := omega) [zbc, gE, tP, DtId.cells, zba, zbb]
 repeat' first | (exfalso; omega) | (refine zcj (zbg zb9 (zbg (zb6 rfl) zbn)) (zmz _ _ (by assumption)) rfl ?_; simp (disch := omega) [zbc, gE, tP, DtId.cells, zba, zbb]) | (refine ⟨by omega, ?_⟩) | (intro _)
 refine hK _ ?_; clear hK K
 refine zbr rfl (fun hc6 => ?_) (fun hc6 => ?_)
 ·try simp [zba, zbb, zbf, zbe, zbm, zbp] at hc6
  all_goals
   refine AW_r rfl rfl fun K hK => ?_
   simp (disch := omega) [zbc, gE, tP, DtId.cells, zba, zbb]
   repeat' first | (exfalso; omega) | (refine ⟨fun _ => ?_, fun _ => ?_⟩) | (refine ⟨by omega, ?_⟩) | (intro _)
   all_goals (refine hK _ ?_; clear hK K)
   all_goals
    refine zbt (zb4 ?_)
    simp (disch := omega) [zbc, gE, tP, DtId.cells, zba, zbb]
    all_goals first | grind [RdyP] | (refine zcu fun h => ?_; grind [RdyP]) | (refine zct ?_; grind [RdyP]) | trace_state
 ·try simp [zba, zbb, zbf, zbe, zbm, zbp] at hc6
  all_goals
   refine zbs ?_
   refine zbx ?_
   refine AW_r rfl rfl fun K hK => ?_
   simp (disch := omega) [zbc, gE, tP, DtId.cells, zba, zbb]
   repeat' first | (exfalso; omega) | (refine zcj (zbg zb9 (zbg (zb6 rfl) zbn)) (l12Reach _ _ (by assumption) (by assumption)) rfl ?_; simp (disch := omega) [zbc, gE, tP, DtId.cells, zba, zbb]) | (refine ⟨fun _ => ?_, fun _ => ?_⟩) | (refine ⟨by omega, ?_⟩) | (intro _)
   all_goals (refine hK _ ?_; clear hK K)
   all_goals
    refine zbo ?_
    refine AW_r rfl rfl fun K hK => ?_
    simp (disch := omega) [zbc, gE, tP, DtId.cells, zba, zbb]
    repeat' first | (refine ⟨by omega, ?_⟩) | (intro _)
    refine hK _ ?_; clear hK K
    refine zbw ?_
    refine zcb (fun mM sS => ∃ (i : Nat), mM = (reachL l id).length - i ∧ (i ≤ (reachL l id).length ∧ ∀ (j : Nat) x, j < i → (reachL l id)[j]? = some x → ¬ cAt l x < 0) ∧ sS = { env := lkE [(0, .sl 16 (l.map DtInst.cells)), (3, .ptr 64 0), (5, .sl 2 ((reachL l id).map DtId.cells)), (6, (.g (.int .i64 ((i : Nat)))))], ob := lk [(64, .cells (DtId.cells id))] }) ?_ ?_
    ·refine ⟨_, LeS.ko [(0, .sl 16 (l.map DtInst.cells)), (3, .ptr 64 0), (5, .sl 2 ((reachL l id).map DtId.cells)), (6, (.g (.int .i64 (((0) : Nat)))))] [(64, .cells (DtId.cells id))] (by simp [KpE, zbl, zbz, zbj, DtId.cells]; try rfl) (by simp [KpO, zbl, zbj, zbu, zcg, DtId.cells]; try rfl) (by rfl) (by simp) (by rfl), _, 0, rfl, ?_, rfl⟩
     ·simp
    ·rintro mM sS ⟨i, rfl, ⟨hi, hpre⟩, rfl⟩
     refine zbo ?_
     refine AW_r rfl rfl fun K hK => ?_
     simp (disch := omega) [zbc, gE, tP, DtId.cells, zba, zbb]
     repeat' first | (refine ⟨by omega, ?_⟩) | (intro _)
     refine hK _ ?_; clear hK K
     refine zbr rfl (fun hc7 => ?_) (fun hc7 => ?_)
     ·try simp [zba, zbb, zbf, zbe, zbm, zbp] at hc7
      all_goals
       have hg : (reachL l id)[i]? = some (reachL l id)[i] := List.getElem?_eq_getElem (by omega)
       refine zbs ?_
       refine zbx ?_
       refine zbo ?_
       refine zbw ?_
       refine AW_r rfl rfl fun K hK => ?_
       simp (disch := omega) [zbc, gE, tP, DtId.cells, zba, zbb]
       repeat' first | (exfalso; omega) | (refine zcj (zbg zb9 (zbg (zb6 rfl) zbn)) (zmz _ _ (by assumption)) rfl ?_; simp (disch := omega) [zbc, gE, tP, DtId.cells, zba, zbb]) | (refine ⟨fun _ => ?_, fun _ => ?_⟩) | (refine ⟨by omega, ?_⟩) | (intro _)
       all_goals (refine hK _ ?_; clear hK K)
       all_goals
        refine zbr rfl (fun hc8 => ?_) (fun hc8 => ?_)
        ·try simp [zba, zbb, zbf, zbe, zbm, zbp] at hc8
         all_goals
          refine AW_r rfl rfl fun K hK => ?_
          simp (disch := omega) [zbc, gE, tP, DtId.cells, zba, zbb]
          repeat' first | (exfalso; omega) | (refine ⟨fun _ => ?_, fun _ => ?_⟩) | (refine ⟨by omega, ?_⟩) | (intro _)
          all_goals (refine hK _ ?_; clear hK K)
          all_goals
           refine zbt (zb4 ?_)
           simp (disch := omega) [zbc, gE, tP, DtId.cells, zba, zbb]
           all_goals first | grind [RdyP] | (refine zcu fun h => ?_; grind [RdyP]) | (refine zct ?_; grind [RdyP]) | trace_state
        ·try simp [zba, zbb, zbf, zbe, zbm, zbp] at hc8
         all_goals
          refine zbs ?_
          refine zbx ?_
          refine zc6 rfl rfl fun K hK => ?_
          simp (disch := omega) [zbc, gE, tP, DtId.cells, zba, zbb]
          repeat' first | (exfalso; omega) | (refine ⟨fun _ => ?_, fun _ => ?_⟩) | (refine ⟨by omega, ?_⟩) | (intro _)
          all_goals (refine hK _ ?_; clear hK K)
          all_goals
           refine ⟨_, LeS.ko [(0, .sl 16 (l.map DtInst.cells)), (3, .ptr 64 0), (5, .sl 2 ((reachL l id).map DtId.cells)), (6, (.g (.int .i64 (((i + 1) : Nat)))))] [(64, .cells (DtId.cells id))] (by simp [KpE, zbl, zbz, zbj, DtId.cells]; try rfl) (by simp [KpO, zbl, zbj, zbu, zcg, DtId.cells]; try rfl) (by rfl) (by simp) (by rfl), _, ?_, i + 1, rfl, ?_, rfl⟩
           ·omega
           ·refine ⟨by omega, ?_⟩; grind
     ·try simp [zba, zbb, zbf, zbe, zbm, zbp] at hc7
      all_goals
       refine zce ?_
       refine zbx ?_
       refine AW_r rfl rfl fun K hK => ?_
       simp (disch := omega) [zbc, gE, tP, DtId.cells, zba, zbb]
       repeat' first | (exfalso; omega) | (refine ⟨fun _ => ?_, fun _ => ?_⟩) | (refine ⟨by omega, ?_⟩) | (intro _)
       all_goals (refine hK _ ?_; clear hK K)
       all_goals
        refine zbt (zb4 ?_)
        simp (disch := omega) [zbc, gE, tP, DtId.cells, zba, zbb]
        all_goals first | grind [RdyP] | (refine zcu fun h => ?_; grind [RdyP]) | (refine zct ?_; grind [RdyP]) | trace_state
end Go.Proofs.Ytfbmhgiokfpgiaa.Vs

import Derived.Test.YtfbmhgiokfpgiaaGreatSPcQ
import Derived.Test.YtfbmhgiokfpgiaaGreatSRyQ
open Go Go.Proofs.YtfbmhgiokfpgiaaGreat.Vs Go.Proofs Go.Sort
namespace Go.Proofs.YtfbmhgiokfpgiaaGreat.Vs
set_option linter.all false
set_option linter.unusedSimpArgs false
set_option linter.unusedVariables false
set_option maxRecDepth 100000
/-! a part, as the program makes it -/
theorem zkq (l : List DtInst) (id : DtId) (hs : szS DtInst.sz l ≤ 1048576) (hn : l.length ≤ 1048576) (hm : ∀ x ∈ l, InstSm x) (hp : InstsP l) : PCall Tryz.prog 68 [.sl 16 (l.map DtInst.cells), .agg (DtId.cells id)] (.sl 2 ((reachL l id).map DtId.cells)) :=
 zrp (zry l id hs hn hm hp) (by simp)
theorem seqL_b {l : List DtInst} (hp : InstsP l) (x : DtId) : 0 ≤ seqL l x ∧ seqL l x ≤ 60 := by
 unfold seqL
 rcases zgp l x with ⟨hm, -⟩ | e
 ·have := zfc hp hm
  exact ⟨this.2.2.2.2.2.2.2.2.1, this.2.2.2.2.2.2.2.2.2.1⟩
 ·rw [e]; simp [zeroInst]
theorem part1 (l : List DtInst) (a b : DtId) (hn : l.length ≤ 1048576) (hm : ∀ x ∈ l, InstSm x) (hp : InstsP l) : GCall Tryz.prog 70 [.agg (DtId.cells a), .agg (DtId.cells b), .ptr 0 0] [[.sl 16 (l.map DtInst.cells)]] [] (.g (.int .i64 (cmpS l a b))) [] := by
 have ha := seqL_b hp a
 have hb := seqL_b hp b
 have ea : (instAt l a).fSeq = seqL l a := rfl
 have eb : (instAt l b).fSeq = seqL l b := rfl
 refine zbz Tryz.func70 (by rfl) (by rfl) (by rw [Tryz.ntmps70]; exact Nat.le_of_ble_eq_true rfl) rfl (by decide) ?_
 rw [Tryz.ntmps70]
 refine AW_k [(0, _), (1, _), (2, _)] ⟨rfl, rfl, rfl, trivial⟩ ?_
 refine AW_r rfl rfl fun K hK => ?_
 simp (disch := omega) [zbd, gE, tP, DtInst.cells, DtCmd.cells, DtId.cells]
 repeat' first | (refine ⟨by omega, ?_⟩) | (intro _)
 refine hK _ ?_; clear hK K
 refine AW_q rfl mix (by kernel_rfl) rfl fun K hK => ?_
 simp (disch := omega) [zbd, gE, tP, DtInst.cells, DtCmd.cells, DtId.cells]
 repeat' first | (exfalso; omega) | (refine zco (zbh zce (zbh (zcb rfl) zbs)) (zfw l _ (by assumption) (by assumption)) rfl ?_; simp (disch := omega) [zbd, gE, tP, DtInst.cells, DtCmd.cells, DtId.cells]) | (refine ⟨by omega, ?_⟩) | (intro _)
 refine hK _ ?_; clear hK K
 refine zbr ?_
 refine AW_r rfl rfl fun K hK => ?_
 simp (disch := omega) [zbd, gE, tP, DtInst.cells, DtCmd.cells, DtId.cells]
 repeat' first | (refine ⟨by omega, ?_⟩) | (intro _)
 refine hK _ ?_; clear hK K
 refine zbu rfl (fun hc1 => ?_) (fun hc1 => ?_)
 ·try simp [zbc, zbb, zbg, zbf, zbq, zbt] at hc1
  all_goals
   refine AW_r rfl rfl fun K hK => ?_
   simp (disch := omega) [zbd, gE, tP, DtInst.cells, DtCmd.cells, DtId.cells]
   repeat' first | (exfalso; omega) | (refine ⟨fun _ => ?_, fun _ => ?_⟩) | (refine ⟨by omega, ?_⟩) | (intro _)
   all_goals (refine hK _ ?_; clear hK K)
   all_goals
    refine zby (zcd ?_)
    simp (disch := omega) [zbd, gE, tP, DtInst.cells, DtCmd.cells, DtId.cells]
    all_goals first | (unfold cmpS; rw [decide_eq_false (by omega), cond_false, ea, eb]; done) | (unfold cmpS; rw [decide_eq_true (by omega), cond_true]; done) | trace_state
 ·try simp [zbc, zbb, zbg, zbf, zbq, zbt] at hc1
  all_goals
   refine zbv ?_
   refine zb4 ?_
   refine AW_r rfl rfl fun K hK => ?_
   simp (disch := omega) [zbd, gE, tP, DtInst.cells, DtCmd.cells, DtId.cells]
   repeat' first | (exfalso; omega) | (refine zco (zbh (zcb rfl) (zbh (zcb rfl) zbs)) (zhp _ _) rfl ?_; simp (disch := omega) [zbd, gE, tP, DtInst.cells, DtCmd.cells, DtId.cells]) | (refine ⟨fun _ => ?_, fun _ => ?_⟩) | (refine ⟨by omega, ?_⟩) | (intro _)
   all_goals (refine hK _ ?_; clear hK K)
   all_goals
    refine zby (zcd ?_)
    simp (disch := omega) [zbd, gE, tP, DtInst.cells, DtCmd.cells, DtId.cells]
    all_goals first | (unfold cmpS; rw [decide_eq_false (by omega), cond_false, ea, eb]; done) | (unfold cmpS; rw [decide_eq_true (by omega), cond_true]; done) | trace_state
instance : Inhabited DtId := ⟨⟨0, 0⟩⟩
theorem swo_S (l : List DtInst) : SWO (ltOf (cmpS l)) := by
 have hl : ∀ a b, ltOf (cmpS l) a b = decB (sLt l a b) := fun a b => by
  rw [Bool.eq_iff_iff, zbc, ← zt1]
  unfold ltOf
  simp
 refine ⟨fun x => ?_, fun x y z h1 h2 => ?_, fun x y z h1 h2 => ?_⟩
 ·rw [hl, zbb]; exact zmu l x
 ·rw [hl, zbc] at h1 h2 ⊢; exact zhb h1 h2
 ·rw [hl, zbb] at h1 h2 ⊢
  intro h
  by_cases e : y = x
  ·subst e; exact h2 h
  ·exact h2 (zhb (zt0 h1 (fun e2 => e e2.symm)) h)
theorem sortPart (l : List DtInst) (hn : l.length ≤ 1048576) (hm : ∀ x ∈ l, InstSm x) (hp : InstsP l) (o : List DtId) (ho : o.length ≤ 1048576) : XCall Tryz.prog 69 [.arr 9 0 o.length, .fn 70 [] [.ptr 8 0]] [.cells [.sl 16 (l.map DtInst.cells)], .own 2 (o.map DtId.cells)] (.tup []) [.cells [.sl 16 (l.map DtInst.cells)], .own 2 ((srt (cmpS l) o).map DtId.cells)] [] := by
 refine zxg (enc := encId) (fun _ => rfl) (fun x v hv => ?_) (cf := cmpS l) ⟨_, Tryz.func69, by kernel_rfl, by kernel_rfl⟩ (fun cb blk cap d w hcmp hH hblk hsz => ?_) (fun p cap fv w => ?_) rfl (fun x y => ?_) o ho
 ·simp only [encId, List.mem_cons, List.not_mem_nil, or_false] at hv
  rcases hv with rfl | rfl <;> rfl
 ·exact Go.Proofs.AnyQ.slices_SortFunc_total Tryz.laysSort 2 (fun w => Tryz.isAgg44 w) (fun w => Tryz.sizeOf44 w) encId (fun _ => rfl) (fun x v hv => by
   simp only [encId, List.mem_cons, List.not_mem_nil, or_false] at hv
   rcases hv with rfl | rfl <;> rfl) (cmpS l) (swo_S l) _ cb blk 0 cap d w (fun args w => enters_of Tryz.func70 (by kernel_rfl) rfl args w) hcmp hH hblk hsz (fun x y h1 h2 => by
    have hl : ∀ a b, ltOf (cmpS l) a b = decB (sLt l a b) := fun a b => by
     rw [Bool.eq_iff_iff, zbc, ← zt1]
     unfold ltOf
     simp
    rw [hl, zbb] at h1 h2
    exact Classical.byContradiction fun h => h2 (zt0 h1 h))
 ·exact Go.Proofs.AnyF.slices_SortFunc_none Tryz.laysSort p cap fv w
 ·exact part1 l x y hn hm hp
theorem zcz (q : Bool) (st : St) (hs Z : List Nat) (g g' : FuncId) (n m o o' : Nat) : ax2 q st hs Z (.fn g [] [.ptr n o]) (.fn g' [] [.ptr m o']) = (g' = g ∧ nuX hs m = some n ∧ o' = o) := by
 apply propext
 constructor
 ·intro h
  obtain ⟨h1, -, h2, -⟩ := h
  exact ⟨h1, h2.1, h2.2⟩
 ·rintro ⟨h1, h2, h3⟩
  exact ⟨h1, rfl, ⟨h2, h3⟩, rfl⟩
noncomputable def ptT (l : List DtInst) (id : DtId) (i : Nat) : List DtId := id :: ((reachL l id).take i).filter fun d => !(eqB d id) && decB (id ∈ reachL l d)
theorem zxm (l : List DtInst) (id : DtId) : ptT l id 0 = [id] := by unfold ptT; simp
theorem ptT_e (l : List DtInst) (id : DtId) (i : Nat) (h : (reachL l id).length ≤ i) : ptT l id i = out0 l id := by unfold ptT out0; rw [List.take_of_length_le h]
theorem ptT_len (l : List DtInst) (id : DtId) (i : Nat) : (ptT l id i).length ≤ i + 1 := by
 unfold ptT
 have := List.length_filter_le (fun d => !(eqB d id) && decB (id ∈ reachL l d)) ((reachL l id).take i)
 rw [List.length_take] at this
 simp only [List.length_cons]
 omega
theorem ptT_s (l : List DtInst) (id : DtId) (i : Nat) (h : i < (reachL l id).length) : (¬ (reachL l id)[i] = id ∧ id ∈ reachL l (reachL l id)[i] → ptT l id (i + 1) = ptT l id i ++ [(reachL l id)[i]]) ∧ (¬ (¬ (reachL l id)[i] = id ∧ id ∈ reachL l (reachL l id)[i]) → ptT l id (i + 1) = ptT l id i) := by
 unfold ptT
 rw [List.take_succ_eq_append_getElem h, List.filter_append, ← List.cons_append]
 constructor
 ·rintro ⟨h1, h2⟩
  rw [List.filter_cons_of_pos (by rw [zci h1, zcu h2]; rfl)]
  rfl
 ·intro hn
  rw [List.filter_cons_of_neg (by
   intro hh
   rw [Bool.and_eq_true, Bool.not_eq_true', zbf, zbc] at hh
   exact hn hh)]
  simp
theorem implPart (l : List DtInst) (id : DtId) (hs : szS DtInst.sz l ≤ 1048576) (hn : l.length ≤ 1048576) (hm : ∀ x ∈ l, InstSm x) (hp : InstsP l) : XCall Tryz.prog 51 [.sl 16 (l.map DtInst.cells), .agg (DtId.cells id)] [] (.arr 16 0 (partL l id).length) [] [.own 2 ((partL l id).map DtId.cells)] := by
 have hrl := zgq hp id
 refine zcg Tryz.func51 (by rfl) (by rfl) (by rw [Tryz.ntmps51]; exact Nat.le_of_ble_eq_true rfl) rfl (by simp) rfl rfl ?_
 rw [Tryz.ntmps51]
 refine zfb   ?_
 refine AW_k [(0, _), (1, _)] ⟨rfl, rfl, trivial⟩ ?_
 refine AW_x rfl rfl fun K hK => ?_
 simp (disch := omega) [zbd, gE, tP, DtInst.cells, DtCmd.cells, DtId.cells, zba, zbe, and_assoc, zbc, zbb, zbx, zcz]
 repeat' first | (refine ⟨by omega, ?_⟩) | (intro _)
 refine hK _ ?_; clear hK K
 refine AW_x rfl rfl fun K hK => ?_
 simp (disch := omega) [zbd, gE, tP, DtInst.cells, DtCmd.cells, DtId.cells, zba, zbe, and_assoc, zbc, zbb, zbx, zcz]
 repeat' first | (refine ⟨by omega, ?_⟩) | (simp (disch := omega) [zbd, gE, tP, DtInst.cells, DtCmd.cells, DtId.cells, zba, zbe, and_assoc, zbc, zbb, zbx, zcz]) | (intro _)
 refine hK _ ?_; clear hK K
 refine zbr ?_
 refine AW_x rfl rfl fun K hK => ?_
 simp (disch := omega) [zbd, gE, tP, DtInst.cells, DtCmd.cells, DtId.cells, zba, zbe, and_assoc, zbc, zbb, zbx, zcz]
 repeat' first | (exfalso; omega) | (refine zde (zbh zce (zbh (zcb rfl) zbs)) (zkq l id hs hn hm hp) rfl ?_; simp (disch := omega) [zbd, gE, tP, DtInst.cells, DtCmd.cells, DtId.cells, zba, zbe, and_assoc, zbc, zbb, zbx, zcz]) | (refine zdf (zkq l id hs hn hm hp) (by rfl) ?_ ?_; (focus (simp (disch := omega) [zbd, gE, tP, DtInst.cells, DtCmd.cells, DtId.cells, zba, zbe, and_assoc, zbc, zbb, zbx, zcz, zba]; done)); simp (disch := omega) [zbd, gE, tP, DtInst.cells, DtCmd.cells, DtId.cells, zba, zbe, and_assoc, zbc, zbb, zbx, zcz]) | (refine zde (zbh zce (zbh (zcb rfl) zbs)) (zkq l (reachL l id)[i] hs hn hm hp) rfl ?_; simp (disch := omega) [zbd, gE, tP, DtInst.cells, DtCmd.cells, DtId.cells, zba, zbe, and_assoc, zbc, zbb, zbx, zcz]) | (refine zdf (zkq l (reachL l id)[i] hs hn hm hp) (by rfl) ?_ ?_; (focus (simp (disch := omega) [zbd, gE, tP, DtInst.cells, DtCmd.cells, DtId.cells, zba, zbe, and_assoc, zbc, zbb, zbx, zcz, zba]; done)); simp (disch := omega) [zbd, gE, tP, DtInst.cells, DtCmd.cells, DtId.cells, zba, zbe, and_assoc, zbc, zbb, zbx, zcz]) | (refine ⟨by omega, ?_⟩) | (simp (disch := omega) [zbd, gE, tP, DtInst.cells, DtCmd.cells, DtId.cells, zba, zbe, and_assoc, zbc, zbb, zbx, zcz]) | (intro _)
 refine hK _ ?_; clear hK K
 refine zb0 ?_
 refine zcf (fun mM sS => ∃ (i : Nat), mM = (reachL l id).length - i ∧ (i ≤ (reachL l id).length) ∧ sS = { env := lkE [(2, .ptr 48 0), (3, .ptr 64 0), (5, .arr 501 0 (ptT l id i).length), (12, .sl 2 ((reachL l id).map DtId.cells)), (13, (.g (.int .i64 (((reachL l id).length : Nat))))), (14, (.g (.int .i64 ((i : Nat)))))], ob := lk [(48, .cells [.sl 16 (l.map DtInst.cells)]), (64, .cells (DtId.cells id)), (501, .win 2 ((ptT l id i).map DtId.cells))] }) ?_ ?_
 ·refine ⟨_, LeS.kx [(48, 48), (64, 64), (501, 160)] [(2, .ptr 48 0), (3, .ptr 64 0), (5, .arr 501 0 (ptT l id (0)).length), (12, .sl 2 ((reachL l id).map DtId.cells)), (13, (.g (.int .i64 (((reachL l id).length : Nat))))), (14, (.g (.int .i64 (((0) : Nat)))))] [(48, .cells [.sl 16 (l.map DtInst.cells)]), (64, .cells (DtId.cells id)), (501, .win 2 ((ptT l id (0)).map DtId.cells))] (by simp [KpR, renV2, renV, zbl, zb5, zbi, zbp, DtId.cells, zxm, zbe]; try (first | (rw [hsx]; done) | (rw [hsx]; simp; done))) (by simp [KpOX, renO, plO, cvO, renV, pl1, zbi, zbp, zbl, DtId.cells, zxm, zbe]; try (first | (rw [hsx]; done) | (rw [hsx]; simp [DtId.cells]; done))) (by rfl) (by simp) (by simp) (by rfl) (by simp [formsX, List.range_succ, zbi, zbp]), _, 0, rfl, ?_, rfl⟩
  ·simp
 ·rintro mM sS ⟨i, rfl, hi, rfl⟩
  have hpl := ptT_len l id i
  refine AW_x rfl rfl fun K hK => ?_
  simp (disch := omega) [zbd, gE, tP, DtInst.cells, DtCmd.cells, DtId.cells, zba, zbe, and_assoc, zbc, zbb, zbx, zcz]
  repeat' first | (refine ⟨by omega, ?_⟩) | (intro _)
  refine hK _ ?_; clear hK K
  refine zbr ?_
  refine zbu rfl (fun hc2 => ?_) (fun hc2 => ?_)
  ·try simp [zbc, zbb, zbg, zbf, zbq, zbt] at hc2
   all_goals
    have hps := ptT_s l id i (by omega)
    have hrl2 := zgq hp (reachL l id)[i]
    have hxe := zgo (reachL l id)[i] id
    refine zbv ?_
    refine zb4 ?_
    refine zbr ?_
    refine zb0 ?_
    refine AW_x rfl rfl fun K hK => ?_
    simp (disch := omega) [zbd, gE, tP, DtInst.cells, DtCmd.cells, DtId.cells, zba, zbe, and_assoc, zbc, zbb, zbx, zcz]
    repeat' first | (exfalso; omega) | (refine ⟨fun _ => ?_, fun _ => ?_⟩) | (refine ⟨by omega, ?_⟩) | (simp (disch := omega) [zbd, gE, tP, DtInst.cells, DtCmd.cells, DtId.cells, zba, zbe, and_assoc, zbc, zbb, zbx, zcz]) | (intro _)
    all_goals (refine hK _ ?_; clear hK K)
    all_goals
     refine AW_d rfl mix (by kernel_rfl) (by kernel_rfl) fun K hK => ?_
     simp (disch := omega) [zbd, gE, tP, DtInst.cells, DtCmd.cells, DtId.cells, zba, zbe, and_assoc, zbc, zbb, zbx, zcz]
     repeat' first | (exfalso; omega) | (refine zxb (fun st' => (zbh zce (zbh (zcb rfl) zbs))) (zkq l id hs hn hm hp) rfl ?_; simp (disch := omega) [zbd, gE, tP, DtInst.cells, DtCmd.cells, DtId.cells, zba, zbe, and_assoc, zbc, zbb, zbx, zcz]) | (refine zxc (zkq l id hs hn hm hp) (by rfl) (fun st' hst => ?_) ?_; (focus (simp (disch := omega) [zbd, gE, tP, DtInst.cells, DtCmd.cells, DtId.cells, zba, zbe, and_assoc, zbc, zbb, zbx, zcz] at hst; simp (disch := omega) [zbd, gE, tP, DtInst.cells, DtCmd.cells, DtId.cells, zba, zbe, and_assoc, zbc, zbb, zbx, zcz, hst, zba]; done)); simp (disch := omega) [zbd, gE, tP, DtInst.cells, DtCmd.cells, DtId.cells, zba, zbe, and_assoc, zbc, zbb, zbx, zcz]) | (refine zxb (fun st' => (zbh zce (zbh (zcb rfl) zbs))) (zkq l (reachL l id)[i] hs hn hm hp) rfl ?_; simp (disch := omega) [zbd, gE, tP, DtInst.cells, DtCmd.cells, DtId.cells, zba, zbe, and_assoc, zbc, zbb, zbx, zcz]) | (refine zxc (zkq l (reachL l id)[i] hs hn hm hp) (by rfl) (fun st' hst => ?_) ?_; (focus (simp (disch := omega) [zbd, gE, tP, DtInst.cells, DtCmd.cells, DtId.cells, zba, zbe, and_assoc, zbc, zbb, zbx, zcz] at hst; simp (disch := omega) [zbd, gE, tP, DtInst.cells, DtCmd.cells, DtId.cells, zba, zbe, and_assoc, zbc, zbb, zbx, zcz, hst, zba]; done)); simp (disch := omega) [zbd, gE, tP, DtInst.cells, DtCmd.cells, DtId.cells, zba, zbe, and_assoc, zbc, zbb, zbx, zcz]) | (refine zxb (fun st' => (zbh zce (zbh (zcb rfl) zbs))) (zd2 _ _ (by omega)) rfl ?_; simp (disch := omega) [zbd, gE, tP, DtInst.cells, DtCmd.cells, DtId.cells, zba, zbe, and_assoc, zbc, zbb, zbx, zcz]) | (refine zxc (zd2 _ _ (by omega)) (by rfl) (fun st' hst => ?_) ?_; (focus (simp (disch := omega) [zbd, gE, tP, DtInst.cells, DtCmd.cells, DtId.cells, zba, zbe, and_assoc, zbc, zbb, zbx, zcz] at hst; simp (disch := omega) [zbd, gE, tP, DtInst.cells, DtCmd.cells, DtId.cells, zba, zbe, and_assoc, zbc, zbb, zbx, zcz, hst, zba]; done)); simp (disch := omega) [zbd, gE, tP, DtInst.cells, DtCmd.cells, DtId.cells, zba, zbe, and_assoc, zbc, zbb, zbx, zcz]) | (refine ⟨fun _ => ?_, fun _ => ?_⟩) | (refine ⟨by omega, ?_⟩) | (simp (disch := omega) [zbd, gE, tP, DtInst.cells, DtCmd.cells, DtId.cells, zba, zbe, and_assoc, zbc, zbb, zbx, zcz]) | (intro _)
     all_goals (refine hK _ _ (by kernel_rfl) ?_; clear hK K)
     all_goals
      refine zbu rfl (fun hc3 => ?_) (fun hc3 => ?_)
      ·try simp [zbc, zbb, zbg, zbf, zbq, zbt] at hc3
       all_goals
        refine zdd rfl rfl fun K hK => ?_
        simp (disch := omega) [zbd, gE, tP, DtInst.cells, DtCmd.cells, DtId.cells, zba, zbe, and_assoc, zbc, zbb, zbx, zcz]
        repeat' first | (exfalso; omega) | (refine ⟨fun _ => ?_, fun _ => ?_⟩) | (refine ⟨by omega, ?_⟩) | (simp (disch := omega) [zbd, gE, tP, DtInst.cells, DtCmd.cells, DtId.cells, zba, zbe, and_assoc, zbc, zbb, zbx, zcz]) | (intro _)
        all_goals (refine hK _ ?_; clear hK K)
        all_goals
         refine zb4 ?_
         refine zdd rfl rfl fun K hK => ?_
         simp (disch := omega) [zbd, gE, tP, DtInst.cells, DtCmd.cells, DtId.cells, zba, zbe, and_assoc, zbc, zbb, zbx, zcz]
         repeat' first | (refine ⟨by omega, ?_⟩) | (intro _)
         refine hK _ ?_; clear hK K
         first | have hsx := hps.1 (by grind) | have hsx := hps.2 (by grind)
         refine ⟨_, LeS.kx [(48, 48), (64, 64), (501, 512)] [(2, .ptr 48 0), (3, .ptr 64 0), (5, .arr 501 0 (ptT l id (i + 1)).length), (12, .sl 2 ((reachL l id).map DtId.cells)), (13, (.g (.int .i64 (((reachL l id).length : Nat))))), (14, (.g (.int .i64 (((i + 1) : Nat)))))] [(48, .cells [.sl 16 (l.map DtInst.cells)]), (64, .cells (DtId.cells id)), (501, .win 2 ((ptT l id (i + 1)).map DtId.cells))] (by simp [KpR, renV2, renV, zbl, zb5, zbi, zbp, DtId.cells, zxm, zbe]; try (first | (rw [hsx]; done) | (rw [hsx]; simp; done))) (by simp [KpOX, renO, plO, cvO, renV, pl1, zbi, zbp, zbl, DtId.cells, zxm, zbe]; try (first | (rw [hsx]; done) | (rw [hsx]; simp [DtId.cells]; done))) (by rfl) (by simp) (by simp) (by rfl) (by simp [formsX, List.range_succ, zbi, zbp]), _, ?_, i + 1, rfl, ?_, rfl⟩
         ·omega
         ·omega
      ·try simp [zbc, zbb, zbg, zbf, zbq, zbt] at hc3
       all_goals
        refine zbv ?_
        refine zb4 ?_
        refine zdd rfl rfl fun K hK => ?_
        simp (disch := omega) [zbd, gE, tP, DtInst.cells, DtCmd.cells, DtId.cells, zba, zbe, and_assoc, zbc, zbb, zbx, zcz]
        repeat' first | (exfalso; omega) | (refine ⟨fun _ => ?_, fun _ => ?_⟩) | (refine ⟨by omega, ?_⟩) | (simp (disch := omega) [zbd, gE, tP, DtInst.cells, DtCmd.cells, DtId.cells, zba, zbe, and_assoc, zbc, zbb, zbx, zcz]) | (intro _)
        all_goals (refine hK _ ?_; clear hK K)
        all_goals
         first | have hsx := hps.1 (by grind) | have hsx := hps.2 (by grind)
         refine ⟨_, LeS.kx [(48, 48), (64, 64), (501, 501)] [(2, .ptr 48 0), (3, .ptr 64 0), (5, .arr 501 0 (ptT l id (i + 1)).length), (12, .sl 2 ((reachL l id).map DtId.cells)), (13, (.g (.int .i64 (((reachL l id).length : Nat))))), (14, (.g (.int .i64 (((i + 1) : Nat)))))] [(48, .cells [.sl 16 (l.map DtInst.cells)]), (64, .cells (DtId.cells id)), (501, .win 2 ((ptT l id (i + 1)).map DtId.cells))] (by simp [KpR, renV2, renV, zbl, zb5, zbi, zbp, DtId.cells, zxm, zbe]; try (first | (rw [hsx]; done) | (rw [hsx]; simp; done))) (by simp [KpOX, renO, plO, cvO, renV, pl1, zbi, zbp, zbl, DtId.cells, zxm, zbe]; try (first | (rw [hsx]; done) | (rw [hsx]; simp [DtId.cells]; done))) (by rfl) (by simp) (by simp) (by rfl) (by simp [formsX, List.range_succ, zbi, zbp]), _, ?_, i + 1, rfl, ?_, rfl⟩
         ·omega
         ·omega
  ·try simp [zbc, zbb, zbg, zbf, zbq, zbt] at hc2
   all_goals
    refine zch ?_
    refine zb4 ?_
    refine AW_x rfl rfl fun K hK => ?_
    simp (disch := omega) [zbd, gE, tP, DtInst.cells, DtCmd.cells, DtId.cells, zba, zbe, and_assoc, zbc, zbb, zbx, zcz]
    repeat' first | (exfalso; omega) | (refine zfs [48, 501] false [] (sortPart l hn hm hp (ptT l id i) (by have := ptT_len l id i; omega)) ?_ ?_ ?_; (focus (simp [List.range_succ, nmC]; done)); (focus (simp (disch := omega) [zbd, gE, tP, DtInst.cells, DtCmd.cells, DtId.cells, zba, zbe, and_assoc, zbc, zbb, zbx, zcz, zba]; done)); simp (disch := omega) [zbd, gE, tP, DtInst.cells, DtCmd.cells, DtId.cells, zba, zbe, and_assoc, zbc, zbb, zbx, zcz]) | (refine ⟨fun _ => ?_, fun _ => ?_⟩) | (refine ⟨by omega, ?_⟩) | (simp (disch := omega) [zbd, gE, tP, DtInst.cells, DtCmd.cells, DtId.cells, zba, zbe, and_assoc, zbc, zbb, zbx, zcz]) | (intro _)
    all_goals (refine hK _ ?_; clear hK K)
    all_goals
     refine AW_x rfl rfl fun K hK => ?_
     simp (disch := omega) [zbd, gE, tP, DtInst.cells, DtCmd.cells, DtId.cells, zba, zbe, and_assoc, zbc, zbb, zbx, zcz]
     repeat' first | (refine ⟨by omega, ?_⟩) | (intro _)
     refine hK _ ?_; clear hK K
     refine zby (zdm [501] [] (by simp [List.range_succ, zbi, zbp, zbl]) (by simp) ?_)
     simp (disch := omega) [zbd, gE, tP, DtInst.cells, DtCmd.cells, DtId.cells, zba, zbe, and_assoc, zbc, zbb, zbx, zcz]
     all_goals first | (rw [ptT_e l id i (by omega)]; exact ⟨zml (cmpS l) (out0 l id), rfl⟩) | trace_state
end Go.Proofs.YtfbmhgiokfpgiaaGreat.Vs

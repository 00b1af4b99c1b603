import Derived.Test.YtfbmhgiokfpgiaaGreatSPdQ
open Go Go.Proofs Go.Proofs.YtfbmhgiokfpgiaaGreat.Vs
namespace Go.Proofs.YtfbmhgiokfpgiaaGreat.Vs
set_option linter.all false
set_option linter.unusedSimpArgs false
set_option linter.unusedVariables false
set_option maxRecDepth 100000
set_option maxHeartbeats 4000000
/-! a part, as the reference makes it -/
noncomputable def ixL (l : List DtInst) (x : DtId) : Nat := (cAt l x).toNat
theorem zqg {l : List DtInst} (hp : InstsP l) {x : DtId} (h3 : (instAt l x).fStatus = 3) : cAt l x = ((ixL l x : Nat) : Int) ∧ ∃ h : ixL l x < l.length, l[ixL l x] = instAt l x := by
 rcases zp6 hp x with ⟨-, -, h⟩ | ⟨i, hi, h1, h2, -, h4⟩
 ·exact absurd h3 h
 ·have e : ixL l x = i := by unfold ixL; rw [h1]; simp
  exact ⟨by rw [h1, e], by rw [e]; exact hi, by rw [h4]; congr 1⟩
structure InsI (l : List DtInst) (id : DtId) (i : Nat) (o : List DtId) : Prop where
 pw : o.Pairwise (sLt l)
 mem : ∀ x, x ∈ o ↔ ∃ j y, j < i ∧ l[j]? = some y ∧ y.fId = x ∧ Same l id x
theorem insI_0 (l : List DtInst) (id : DtId) : InsI l id 0 [] := ⟨List.Pairwise.nil, fun x => by simp⟩
theorem zr4 {l : List DtInst} {id : DtId} {i : Nat} {o : List DtId} (h : InsI l id i o) (hi : i < l.length) (hn : ¬ Same l id l[i].fId) : InsI l id (i + 1) o := by
 refine ⟨h.pw, fun x => ?_⟩
 rw [h.mem]
 constructor
 ·rintro ⟨j, y, h1, h2⟩; exact ⟨j, y, by omega, h2⟩
 ·rintro ⟨j, y, h1, h2, h3, h4⟩
  by_cases e : j = i
  ·subst e
   rw [List.getElem?_eq_getElem hi] at h2
   cases h2
   exact absurd (h3 ▸ h4) hn
  ·exact ⟨j, y, by omega, h2, h3, h4⟩
theorem insI_lt {l : List DtInst} (hp : InstsP l) {id : DtId} {i : Nat} {o : List DtId} (h : InsI l id i o) (hi : i < l.length) : ∀ x ∈ o, idLt x l[i].fId := by
 intro x hx
 obtain ⟨j, y, h1, h2, rfl, -⟩ := (h.mem x).1 hx
 obtain ⟨hj, rfl⟩ := List.getElem?_eq_some_iff.1 h2
 have := List.pairwise_iff_getElem.1 (zkd hp) j i (by simpa using hj) (by simpa using hi) h1
 simpa using this
theorem zwd {l : List DtInst} (hp : InstsP l) {id : DtId} {i : Nat} {o : List DtId} (h : InsI l id i o) (hi : i < l.length) (hs : Same l id l[i].fId) {k : Nat} (hk : k ≤ o.length) (h1 : ∀ (j : Nat) x, k ≤ j → o[j]? = some x → seqL l l[i].fId < seqL l x) (h2 : ∀ x, 0 < k → o[k - 1]? = some x → seqL l x ≤ seqL l l[i].fId) : InsI l id (i + 1) (o.take k ++ l[i].fId :: o.drop k) := by
 have hlt := insI_lt hp h hi
 have hpt : ∀ x ∈ o.take k, sLt l x l[i].fId := by
  intro x hx
  obtain ⟨j, hj⟩ := List.getElem?_of_mem hx
  have hjk : j < k := by have := (List.getElem?_eq_some_iff.1 hj).1; rw [List.length_take] at this; omega
  rw [List.getElem?_take, if_pos hjk] at hj
  obtain ⟨hjo, rfl⟩ := List.getElem?_eq_some_iff.1 hj
  have hk1 : k - 1 < o.length := by omega
  have h3 := h2 o[k - 1] (by omega) (List.getElem?_eq_getElem hk1)
  have h4 : seqL l o[j] ≤ seqL l o[k - 1] := by
   by_cases e : j = k - 1
   ·subst e; omega
   ·rcases List.pairwise_iff_getElem.1 h.pw j (k - 1) hjo hk1 (by omega) with h5 | ⟨h5, -⟩ <;> omega
  have h5 := hlt _ (List.getElem_mem hjo)
  by_cases e : seqL l o[j] = seqL l l[i].fId
  ·exact .inr ⟨e, h5⟩
  ·exact .inl (by omega)
 have hpd : ∀ x ∈ o.drop k, sLt l l[i].fId x := by
  intro x hx
  obtain ⟨j, hj⟩ := List.getElem?_of_mem hx
  rw [List.getElem?_drop] at hj
  exact .inl (h1 (k + j) x (by omega) hj)
 refine ⟨List.pairwise_append.2 ⟨h.pw.sublist (List.take_sublist _ _), List.pairwise_cons.2 ⟨hpd, h.pw.sublist (List.drop_sublist _ _)⟩, fun a ha b hb => ?_⟩, fun x => ?_⟩
 ·rcases List.mem_cons.1 hb with rfl | hb
  ·exact hpt a ha
  ·exact zhb (hpt a ha) (hpd b hb)
 ·have e : x ∈ o.take k ++ l[i].fId :: o.drop k ↔ x ∈ o ∨ x = l[i].fId := by
   conv => rhs; rw [← List.take_append_drop k o]
   simp only [List.mem_append, List.mem_cons]
   constructor
   ·rintro (h | h | h)
    ·exact .inl (.inl h)
    ·exact .inr h
    ·exact .inl (.inr h)
   ·rintro ((h | h) | h)
    ·exact .inl h
    ·exact .inr (.inr h)
    ·exact .inr (.inl h)
  rw [e, h.mem]
  constructor
  ·rintro (⟨j, y, k1, k2⟩ | rfl)
   ·exact ⟨j, y, by omega, k2⟩
   ·exact ⟨i, l[i], by omega, List.getElem?_eq_getElem hi, rfl, hs⟩
  ·rintro ⟨j, y, k1, k2, k3, k4⟩
   by_cases ej : j = i
   ·subst ej
    rw [List.getElem?_eq_getElem hi] at k2
    cases k2
    exact .inr k3.symm
   ·exact .inl ⟨j, y, by omega, k2, k3, k4⟩
theorem insI_len {l : List DtInst} (hp : InstsP l) {id : DtId} {i : Nat} {o : List DtId} (h : InsI l id i o) : o.length ≤ 18 := by
 refine zh6 (h.pw.imp fun {a b} h e => by subst e; exact zmu _ _ h) fun x hx => ?_
 obtain ⟨j, y, -, h2, rfl, -⟩ := (h.mem x).1 hx
 exact (zfc hp (List.mem_of_getElem? h2)).1
theorem insI_e {l : List DtInst} (hp : InstsP l) {id : DtId} (hr : RdyP l id) {o : List DtId} (h : InsI l id l.length o) : o = partL l id := by
 refine zwa hp h.pw fun x => ?_
 rw [h.mem]
 constructor
 ·rintro ⟨j, y, -, -, -, h4⟩; exact h4
 ·intro hs
  obtain ⟨-, y, hy, rfl⟩ := zwc hp (zqc hp hr hs)
  obtain ⟨j, hj⟩ := List.getElem?_of_mem hy
  exact ⟨j, y, (List.getElem?_eq_some_iff.1 hj).1, hj, rfl, hs⟩
theorem insI_st {l : List DtInst} (hp : InstsP l) {id : DtId} (hr : RdyP l id) {i : Nat} {o : List DtId} (h : InsI l id i o) : ∀ x ∈ o, (instAt l x).fStatus = 3 := by
 intro x hx
 obtain ⟨j, y, -, -, -, h4⟩ := (h.mem x).1 hx
 exact ((zmt hp x).1 (zqc hp hr h4)).1
theorem same_iff {l : List DtInst} (hp : InstsP l) (id x : DtId) : Same l id x ↔ x = id ∨ (x ∈ reachL l id ∧ id ∈ reachL l x) := by
 unfold Same; rw [(zdj hp id).2, (zdj hp x).2]
theorem zt3 (o : List DtId) (k : Nat) (x : DtId) (hk : k ≤ o.length) : List.take (k + 1) (List.take k (o.map DtId.cells) ++ [DtId.cells x]) ++ List.take (o.length - k) (List.take (o.length - k) (List.drop k (o.map DtId.cells))) = List.take k (o.map DtId.cells) ++ DtId.cells x :: List.drop k (o.map DtId.cells) ∧ scR (List.take k (o.map DtId.cells)) = true ∧ scR (List.drop k (o.map DtId.cells)) = true := by
 refine ⟨?_, by rw [← List.map_take]; exact zbe _, by rw [← List.map_drop]; exact zbe _⟩
 rw [List.take_of_length_le (l := List.take k (o.map DtId.cells) ++ [DtId.cells x]) (by simp; omega), List.take_of_length_le (l := List.drop k (o.map DtId.cells)) (by simp), List.take_of_length_le (l := List.drop k (o.map DtId.cells)) (by simp)]
 simp
theorem zdt (l : List DtInst) (x : DtId) : (instAt l x).fSeq = seqL l x := (rfl)
theorem zwe (l : List DtInst) (id : DtId) (hn : l.length ≤ 1048576) (hp : InstsP l) (hr : RdyP l id) : PCall Tryz.prog 42 [.sl 16 (l.map DtInst.cells), .agg (DtId.cells id)] (.sl 2 ((partL l id).map DtId.cells)) := by
 have hrl := zgq hp id
 refine zdz Tryz.func42 (by rfl) (by rfl) (by rw [Tryz.ntmps42]; exact Nat.le_of_ble_eq_true rfl) ?_
 rw [Tryz.ntmps42]
 refine zfb ?_
 refine AW_k [(0, _), (1, _)] ⟨rfl, rfl, trivial⟩ ?_
 refine AW_x rfl rfl fun K hK => ?_
 simp (disch := omega) [zbd, gE, tP, DtInst.cells, DtCmd.cells, DtId.cells, zba, zbe, and_assoc, zbc, zbb, zbx, zbk, zbm]
 repeat' first | (refine ⟨by omega, ?_⟩) | (intro _)
 refine hK _ ?_; clear hK K
 refine AW_x rfl rfl fun K hK => ?_
 simp (disch := omega) [zbd, gE, tP, DtInst.cells, DtCmd.cells, DtId.cells, zba, zbe, and_assoc, zbc, zbb, zbx, zbk, zbm]
 repeat' first | (refine ⟨by omega, ?_⟩) | (simp (disch := omega) [zbd, gE, tP, DtInst.cells, DtCmd.cells, DtId.cells, zba, zbe, and_assoc, zbc, zbb, zbx, zbk, zbm]) | (intro _)
 refine hK _ ?_; clear hK K
 refine AW_x rfl rfl fun K hK => ?_
 simp (disch := omega) [zbd, gE, tP, DtInst.cells, DtCmd.cells, DtId.cells, zba, zbe, and_assoc, zbc, zbb, zbx, zbk, zbm]
 repeat' first | (exfalso; omega) | (refine zde (zbh zce (zbh (zcb rfl) zbs)) (zjo _ _ (by assumption) (by assumption)) rfl ?_; simp (disch := omega) [zbd, gE, tP, DtInst.cells, DtCmd.cells, DtId.cells, zba, zbe, and_assoc, zbc, zbb, zbx, zbk, zbm]) | (refine zdf (zjo _ _ (by assumption) (by assumption)) (by rfl) ?_ ?_; (focus (simp (disch := omega) [zbd, gE, tP, DtInst.cells, DtCmd.cells, DtId.cells, zba, zbe, and_assoc, zbc, zbb, zbx, zbk, zbm, zba]; done)); simp (disch := omega) [zbd, gE, tP, DtInst.cells, DtCmd.cells, DtId.cells, zba, zbe, and_assoc, zbc, zbb, zbx, zbk, zbm]) | (refine ⟨by omega, ?_⟩) | (simp (disch := omega) [zbd, gE, tP, DtInst.cells, DtCmd.cells, DtId.cells, zba, zbe, and_assoc, zbc, zbb, zbx, zbk, zbm]) | (intro _)
 refine hK _ ?_; clear hK K
 refine zbr ?_
 refine AW_x rfl rfl fun K hK => ?_
 simp (disch := omega) [zbd, gE, tP, DtInst.cells, DtCmd.cells, DtId.cells, zba, zbe, and_assoc, zbc, zbb, zbx, zbk, zbm]
 repeat' first | (refine ⟨by omega, ?_⟩) | (intro _)
 refine hK _ ?_; clear hK K
 refine zb0 ?_
 refine zcf (fun mM sS => ∃ (i : Nat) (o : List DtId), mM = l.length - i ∧ (i ≤ l.length ∧ InsI l id i o) ∧ sS = { env := lkE [(0, .sl 16 (l.map DtInst.cells)), (3, .ptr 64 0), (5, .arr 501 0 o.length), (6, .sl 2 ((reachL l id).map DtId.cells)), (7, (.g (.int .i64 ((i : Nat)))))], ob := lk [(64, .cells (DtId.cells id)), (501, .win 2 (o.map DtId.cells))] }) ?_ ?_
 ·refine ⟨_, LeS.kx [(64, 64), (501, 192)] [(0, .sl 16 (l.map DtInst.cells)), (3, .ptr 64 0), (5, .arr 501 0 ([]).length), (6, .sl 2 ((reachL l id).map DtId.cells)), (7, (.g (.int .i64 (((0) : Nat)))))] [(64, .cells (DtId.cells id)), (501, .win 2 (([]).map DtId.cells))] (by simp [KpR, renV2, renV, zbl, zb5, zbi, zbp, DtId.cells, zbe]; try (first | rfl | omega | (rw [Nat.min_eq_left hk]; omega))) (by simp [KpOX, renO, plO, cvO, renV, pl1, zbi, zbp, zbl, DtId.cells, zbe]; try (first | rfl | exact zt3 o k l[i].fId hk | (have hk0 : k = 0 := (by assumption); rw [hk0]; exact ⟨by simp [List.take_of_length_le, DtId.cells], rfl, by simpa using zbe o⟩))) (by rfl) (by simp) (by simp) (by rfl) (by simp [formsX, List.range_succ, zbi, zbp]), _, 0, [], rfl, ?_, rfl⟩
  ·exact ⟨by omega, insI_0 l id⟩
 ·rintro mM sS ⟨i, o, rfl, ⟨hi, ho⟩, rfl⟩
  have hol := insI_len hp ho
  refine zbr ?_
  refine AW_x rfl rfl fun K hK => ?_
  simp (disch := omega) [zbd, gE, tP, DtInst.cells, DtCmd.cells, DtId.cells, zba, zbe, and_assoc, zbc, zbb, zbx, zbk, zbm]
  repeat' first | (refine ⟨by omega, ?_⟩) | (simp (disch := omega) [zbd, gE, tP, DtInst.cells, DtCmd.cells, DtId.cells, zba, zbe, and_assoc, zbc, zbb, zbx, zbk, zbm]) | (intro _)
  refine hK _ ?_; clear hK K
  refine zbu rfl (fun hc1 => ?_) (fun hc1 => ?_)
  ·try simp [zbc, zbb, zbg, zbf, zbq, zbt] at hc1
   all_goals
    have hsi := same_iff hp id l[i].fId
    have hrl2 := zgq hp l[i].fId
    have hxe := zgo l[i].fId id
    have hst := insI_st hp hr ho
    have hq1 : ∀ (j : Nat) (h : j < o.length), cAt l o[j] = ((ixL l o[j] : Nat) : Int) := fun j h => (zqg hp (hst _ (List.getElem_mem h))).1
    have hq2 : ∀ (j : Nat) (h : j < o.length), ixL l o[j] < l.length := fun j h => (zqg hp (hst _ (List.getElem_mem h))).2.1
    have hq3 : ∀ (j : Nat) (h : j < o.length), l[ixL l o[j]]? = some (instAt l o[j]) := fun j h => by obtain ⟨-, h1, h2⟩ := zqg hp (hst _ (List.getElem_mem h)); rw [List.getElem?_eq_getElem h1, h2]
    have hq4 : l[i].fSeq = seqL l l[i].fId := by unfold seqL; rw [zrw hp (by omega)]
    refine zbv ?_
    refine zb4 ?_
    refine zbr ?_
    refine zb0 ?_
    refine AW_x rfl rfl fun K hK => ?_
    simp (disch := omega) [zbd, gE, tP, DtInst.cells, DtCmd.cells, DtId.cells, zba, zbe, and_assoc, zbc, zbb, zbx, zbk, zbm]
    repeat' first | (exfalso; omega) | (refine ⟨fun _ => ?_, fun _ => ?_⟩) | (refine ⟨by omega, ?_⟩) | (simp (disch := omega) [zbd, gE, tP, DtInst.cells, DtCmd.cells, DtId.cells, zba, zbe, and_assoc, zbc, zbb, zbx, zbk, zbm]) | (intro _)
    all_goals (refine hK _ ?_; clear hK K)
    all_goals
     refine zbr ?_
     refine AW_d rfl mix (by kernel_rfl) (by kernel_rfl) fun K hK => ?_
     simp (disch := omega) [zbd, gE, tP, DtInst.cells, DtCmd.cells, DtId.cells, zba, zbe, and_assoc, zbc, zbb, zbx, zbk, zbm]
     repeat' first | (exfalso; omega) | (refine zxb (fun st' => (zbh zce (zbh (zcb rfl) zbs))) (zxh _ _ (by omega)) rfl ?_; simp (disch := omega) [zbd, gE, tP, DtInst.cells, DtCmd.cells, DtId.cells, zba, zbe, and_assoc, zbc, zbb, zbx, zbk, zbm]) | (refine zxc (zxh _ _ (by omega)) (by rfl) (fun st' hst => ?_) ?_; (focus (simp (disch := omega) [zbd, gE, tP, DtInst.cells, DtCmd.cells, DtId.cells, zba, zbe, and_assoc, zbc, zbb, zbx, zbk, zbm] at hst; simp (disch := omega) [zbd, gE, tP, DtInst.cells, DtCmd.cells, DtId.cells, zba, zbe, and_assoc, zbc, zbb, zbx, zbk, zbm, hst, zba]; done)); simp (disch := omega) [zbd, gE, tP, DtInst.cells, DtCmd.cells, DtId.cells, zba, zbe, and_assoc, zbc, zbb, zbx, zbk, zbm]) | (refine zxb (fun st' => (zbh zce (zbh (zcb rfl) zbs))) (zjo _ _ (by assumption) (by assumption)) rfl ?_; simp (disch := omega) [zbd, gE, tP, DtInst.cells, DtCmd.cells, DtId.cells, zba, zbe, and_assoc, zbc, zbb, zbx, zbk, zbm]) | (refine zxc (zjo _ _ (by assumption) (by assumption)) (by rfl) (fun st' hst => ?_) ?_; (focus (simp (disch := omega) [zbd, gE, tP, DtInst.cells, DtCmd.cells, DtId.cells, zba, zbe, and_assoc, zbc, zbb, zbx, zbk, zbm] at hst; simp (disch := omega) [zbd, gE, tP, DtInst.cells, DtCmd.cells, DtId.cells, zba, zbe, and_assoc, zbc, zbb, zbx, zbk, zbm, hst, zba]; done)); simp (disch := omega) [zbd, gE, tP, DtInst.cells, DtCmd.cells, DtId.cells, zba, zbe, and_assoc, zbc, zbb, zbx, zbk, zbm]) | (refine ⟨fun _ => ?_, fun _ => ?_⟩) | (refine ⟨by omega, ?_⟩) | (simp (disch := omega) [zbd, gE, tP, DtInst.cells, DtCmd.cells, DtId.cells, zba, zbe, and_assoc, zbc, zbb, zbx, zbk, zbm]) | (intro _)
     all_goals (refine hK _ _ (by kernel_rfl) ?_; clear hK K)
     all_goals
      refine zbu rfl (fun hc2 => ?_) (fun hc2 => ?_)
      ·try simp [zbc, zbb, zbg, zbf, zbq, zbt] at hc2
       all_goals
        refine zch ?_
        refine zb4 ?_
        refine zdd rfl rfl fun K hK => ?_
        simp (disch := omega) [zbd, gE, tP, DtInst.cells, DtCmd.cells, DtId.cells, zba, zbe, and_assoc, zbc, zbb, zbx, zbk, zbm]
        repeat' first | (exfalso; omega) | (refine ⟨fun _ => ?_, fun _ => ?_⟩) | (refine ⟨by omega, ?_⟩) | (simp (disch := omega) [zbd, gE, tP, DtInst.cells, DtCmd.cells, DtId.cells, zba, zbe, and_assoc, zbc, zbb, zbx, zbk, zbm]) | (intro _)
        all_goals (refine hK _ ?_; clear hK K)
        all_goals
         refine ⟨_, LeS.kx [(64, 64), (501, 501)] [(0, .sl 16 (l.map DtInst.cells)), (3, .ptr 64 0), (5, .arr 501 0 (o).length), (6, .sl 2 ((reachL l id).map DtId.cells)), (7, (.g (.int .i64 (((i + 1) : Nat)))))] [(64, .cells (DtId.cells id)), (501, .win 2 ((o).map DtId.cells))] (by simp [KpR, renV2, renV, zbl, zb5, zbi, zbp, DtId.cells, zbe]; try (first | rfl | omega | (rw [Nat.min_eq_left hk]; omega))) (by simp [KpOX, renO, plO, cvO, renV, pl1, zbi, zbp, zbl, DtId.cells, zbe]; try (first | rfl | exact zt3 o k l[i].fId hk | (have hk0 : k = 0 := (by assumption); rw [hk0]; exact ⟨by simp [List.take_of_length_le, DtId.cells], rfl, by simpa using zbe o⟩))) (by rfl) (by simp) (by simp) (by rfl) (by simp [formsX, List.range_succ, zbi, zbp]), _, ?_, i + 1, o, rfl, ?_, rfl⟩
         ·omega
         ·first | exact ⟨by omega, zr4 ho (by omega) (by rw [hsi]; grind)⟩ | exact ⟨by omega, zwd hp ho (by omega) (by rw [hsi]; grind) hk h1 (by grind)⟩
      ·try simp [zbc, zbb, zbg, zbf, zbq, zbt] at hc2
       all_goals
        refine zbv ?_
        refine zb4 ?_
        refine AW_x rfl rfl fun K hK => ?_
        simp (disch := omega) [zbd, gE, tP, DtInst.cells, DtCmd.cells, DtId.cells, zba, zbe, and_assoc, zbc, zbb, zbx, zbk, zbm]
        repeat' first | (exfalso; omega) | (refine ⟨fun _ => ?_, fun _ => ?_⟩) | (refine ⟨by omega, ?_⟩) | (simp (disch := omega) [zbd, gE, tP, DtInst.cells, DtCmd.cells, DtId.cells, zba, zbe, and_assoc, zbc, zbb, zbx, zbk, zbm]) | (intro _)
        all_goals (refine hK _ ?_; clear hK K)
        all_goals
         refine zbr ?_
         refine zb0 ?_
         refine zcf (fun mM sS => ∃ (k : Nat), mM = 2 * k ∧ (k ≤ o.length ∧ ∀ (j : Nat) x, k ≤ j → o[j]? = some x → seqL l l[i].fId < seqL l x) ∧ sS = { env := lkE [(0, .sl 16 (l.map DtInst.cells)), (3, .ptr 64 0), (5, .arr 501 0 o.length), (6, .sl 2 ((reachL l id).map DtId.cells)), (7, (.g (.int .i64 ((i : Nat))))), (8, .ptr 144 0), (9, (.g (.int .i64 ((k : Nat)))))], ob := lk [(64, .cells (DtId.cells id)), (144, .cells (DtId.cells l[i].fId)), (501, .win 2 (o.map DtId.cells))] }) ?_ ?_
         ·refine ⟨_, LeS.kx [(64, 64), (144, 144), (501, 501)] [(0, .sl 16 (l.map DtInst.cells)), (3, .ptr 64 0), (5, .arr 501 0 o.length), (6, .sl 2 ((reachL l id).map DtId.cells)), (7, (.g (.int .i64 ((i : Nat))))), (8, .ptr 144 0), (9, (.g (.int .i64 (((o.length) : Nat)))))] [(64, .cells (DtId.cells id)), (144, .cells (DtId.cells l[i].fId)), (501, .win 2 (o.map DtId.cells))] (by simp [KpR, renV2, renV, zbl, zb5, zbi, zbp, DtId.cells, zbe]; try (first | rfl | omega)) (by simp [KpOX, renO, plO, cvO, renV, pl1, zbi, zbp, zbl, DtId.cells, zbe]; try rfl) (by rfl) (by simp) (by simp) (by rfl) (by simp [formsX, List.range_succ, zbi, zbp]), _, o.length, rfl, ?_, rfl⟩
          ·exact ⟨by omega, fun j x hj hx => by have := (List.getElem?_eq_some_iff.1 hx).1; omega⟩
         ·rintro mM sS ⟨k, rfl, ⟨hk, h1⟩, rfl⟩
          refine zbr ?_
          refine AW_d rfl mix (by kernel_rfl) (by kernel_rfl) fun K hK => ?_
          simp (disch := omega) [zbd, gE, tP, DtInst.cells, DtCmd.cells, DtId.cells, zba, zbe, and_assoc, zbc, zbb, zbx, zbk, zbm, hq1, hq2, hq3, hq4, zdt]
          repeat' first | (exfalso; omega) | (refine zxb (fun st' => (zbh zce (zbh (zcb rfl) zbs))) (zkc _ _ (by assumption)) rfl ?_; simp (disch := omega) [zbd, gE, tP, DtInst.cells, DtCmd.cells, DtId.cells, zba, zbe, and_assoc, zbc, zbb, zbx, zbk, zbm, hq1, hq2, hq3, hq4, zdt]) | (refine zxc (zkc _ _ (by assumption)) (by rfl) (fun st' hst => ?_) ?_; (focus (simp (disch := omega) [zbd, gE, tP, DtInst.cells, DtCmd.cells, DtId.cells, zba, zbe, and_assoc, zbc, zbb, zbx, zbk, zbm, hq1, hq2, hq3, hq4, zdt] at hst; simp (disch := omega) [zbd, gE, tP, DtInst.cells, DtCmd.cells, DtId.cells, zba, zbe, and_assoc, zbc, zbb, zbx, zbk, zbm, hq1, hq2, hq3, hq4, zdt, hst, zba]; done)); simp (disch := omega) [zbd, gE, tP, DtInst.cells, DtCmd.cells, DtId.cells, zba, zbe, and_assoc, zbc, zbb, zbx, zbk, zbm, hq1, hq2, hq3, hq4, zdt]) | (refine ⟨fun _ => ?_, fun _ => ?_⟩) | (refine ⟨by omega, ?_⟩) | (simp (disch := omega) [zbd, gE, tP, DtInst.cells, DtCmd.cells, DtId.cells, zba, zbe, and_assoc, zbc, zbb, zbx, zbk, zbm, hq1, hq2, hq3, hq4, zdt]) | (intro _)
          all_goals (refine hK _ _ (by kernel_rfl) ?_; clear hK K)
          all_goals
           refine zbu rfl (fun hc3 => ?_) (fun hc3 => ?_)
           ·try simp [zbc, zbb, zbg, zbf, zbq, zbt] at hc3
            all_goals
             have hgk : o[k - 1]? = some o[k - 1] := List.getElem?_eq_getElem (by omega)
             refine zbv ?_
             refine zb4 ?_
             refine zb0 ?_
             refine zdd rfl rfl fun K hK => ?_
             simp (disch := omega) [zbd, gE, tP, DtInst.cells, DtCmd.cells, DtId.cells, zba, zbe, and_assoc, zbc, zbb, zbx, zbk, zbm, hq1, hq2, hq3, hq4, zdt]
             repeat' first | (exfalso; omega) | (refine ⟨fun _ => ?_, fun _ => ?_⟩) | (refine ⟨by omega, ?_⟩) | (simp (disch := omega) [zbd, gE, tP, DtInst.cells, DtCmd.cells, DtId.cells, zba, zbe, and_assoc, zbc, zbb, zbx, zbk, zbm, hq1, hq2, hq3, hq4, zdt]) | (intro _)
             all_goals (refine hK _ ?_; clear hK K)
             all_goals
              refine ⟨_, LeS.kx [(64, 64), (144, 144), (501, 501)] [(0, .sl 16 (l.map DtInst.cells)), (3, .ptr 64 0), (5, .arr 501 0 o.length), (6, .sl 2 ((reachL l id).map DtId.cells)), (7, (.g (.int .i64 ((i : Nat))))), (8, .ptr 144 0), (9, (.g (.int .i64 (((k - 1) : Nat)))))] [(64, .cells (DtId.cells id)), (144, .cells (DtId.cells l[i].fId)), (501, .win 2 (o.map DtId.cells))] (by simp [KpR, renV2, renV, zbl, zb5, zbi, zbp, DtId.cells, zbe]; try (first | rfl | omega)) (by simp [KpOX, renO, plO, cvO, renV, pl1, zbi, zbp, zbl, DtId.cells, zbe]; try rfl) (by rfl) (by simp) (by simp) (by rfl) (by simp [formsX, List.range_succ, zbi, zbp]), _, ?_, k - 1, rfl, ?_, rfl⟩
              ·omega
              ·refine ⟨by omega, fun j x hj hx => ?_⟩; by_cases hjk : j = k - 1
               ·subst hjk; rw [hgk] at hx; cases hx; grind
               ·exact h1 j x (by omega) hx
           ·try simp [zbc, zbb, zbg, zbf, zbq, zbt] at hc3
            all_goals
             refine zch ?_
             refine zb4 ?_
             refine AW_x rfl rfl fun K hK => ?_
             simp (disch := omega) [zbd, gE, tP, DtInst.cells, DtCmd.cells, DtId.cells, zba, zbe, and_assoc, zbc, zbb, zbx, zbk, zbm, hq1, hq2, hq3, hq4, zdt]
             repeat' first | (exfalso; omega) | (refine ⟨fun _ => ?_, fun _ => ?_⟩) | (refine ⟨by omega, ?_⟩) | (simp (disch := omega) [zbd, gE, tP, DtInst.cells, DtCmd.cells, DtId.cells, zba, zbe, and_assoc, zbc, zbb, zbx, zbk, zbm, hq1, hq2, hq3, hq4, zdt]) | (intro _)
             all_goals (refine hK _ ?_; clear hK K)
             all_goals
              refine AW_de rfl mix (by kernel_rfl) (by kernel_rfl) fun K hK => ?_
              simp (disch := omega) [zbd, gE, tP, DtInst.cells, DtCmd.cells, DtId.cells, zba, zbe, and_assoc, zbc, zbb, zbx, zbk, zbm, hq1, hq2, hq3, hq4, zdt]
              repeat' first | (refine ⟨by omega, ?_⟩) | (simp (disch := omega) [zbd, gE, tP, DtInst.cells, DtCmd.cells, DtId.cells, zba, zbe, and_assoc, zbc, zbb, zbx, zbk, zbm, hq1, hq2, hq3, hq4, zdt]) | (intro _)
              refine hK _ _ (by kernel_rfl) ?_; clear hK K
              refine zb4 ?_
              refine zdd rfl rfl fun K hK => ?_
              simp (disch := omega) [zbd, gE, tP, DtInst.cells, DtCmd.cells, DtId.cells, zba, zbe, and_assoc, zbc, zbb, zbx, zbk, zbm, hq1, hq2, hq3, hq4, zdt]
              repeat' first | (refine ⟨by omega, ?_⟩) | (intro _)
              refine hK _ ?_; clear hK K
              refine ⟨_, LeS.kx [(64, 64), (501, 1296)] [(0, .sl 16 (l.map DtInst.cells)), (3, .ptr 64 0), (5, .arr 501 0 (o.take k ++ l[i].fId :: o.drop k).length), (6, .sl 2 ((reachL l id).map DtId.cells)), (7, (.g (.int .i64 (((i + 1) : Nat)))))] [(64, .cells (DtId.cells id)), (501, .win 2 ((o.take k ++ l[i].fId :: o.drop k).map DtId.cells))] (by simp [KpR, renV2, renV, zbl, zb5, zbi, zbp, DtId.cells, zbe]; try (first | rfl | omega | (rw [Nat.min_eq_left hk]; omega))) (by simp [KpOX, renO, plO, cvO, renV, pl1, zbi, zbp, zbl, DtId.cells, zbe]; try (first | rfl | exact zt3 o k l[i].fId hk | (have hk0 : k = 0 := (by assumption); rw [hk0]; exact ⟨by simp [List.take_of_length_le, DtId.cells], rfl, by simpa using zbe o⟩))) (by rfl) (by simp) (by simp) (by rfl) (by simp [formsX, List.range_succ, zbi, zbp]), _, ?_, i + 1, o.take k ++ l[i].fId :: o.drop k, rfl, ?_, rfl⟩
              ·omega
              ·first | exact ⟨by omega, zr4 ho (by omega) (by rw [hsi]; grind)⟩ | exact ⟨by omega, zwd hp ho (by omega) (by rw [hsi]; grind) hk h1 (by grind)⟩
  ·try simp [zbc, zbb, zbg, zbf, zbq, zbt] at hc1
   all_goals
    refine zch ?_
    refine zb4 ?_
    refine AW_x rfl rfl fun K hK => ?_
    simp (disch := omega) [zbd, gE, tP, DtInst.cells, DtCmd.cells, DtId.cells, zba, zbe, and_assoc, zbc, zbb, zbx, zbk, zbm]
    repeat' first | (exfalso; omega) | (refine ⟨fun _ => ?_, fun _ => ?_⟩) | (refine ⟨by omega, ?_⟩) | (simp (disch := omega) [zbd, gE, tP, DtInst.cells, DtCmd.cells, DtId.cells, zba, zbe, and_assoc, zbc, zbb, zbx, zbk, zbm]) | (intro _)
    all_goals (refine hK _ ?_; clear hK K)
    all_goals
     refine zby (zh1 ?_)
     simp (disch := omega) [zbd, gE, tP, DtInst.cells, DtCmd.cells, DtId.cells, zba, zbe, and_assoc, zbc, zbb, zbx, zbk, zbm]
     all_goals first | (obtain rfl : i = l.length := (by omega); rw [insI_e hp hr ho]; exact ⟨zlc _ (fun _ => rfl) _, rfl⟩) | trace_state
end Go.Proofs.YtfbmhgiokfpgiaaGreat.Vs

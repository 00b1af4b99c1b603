import Derived.Test.YtmheohnbkaoipaaGreatSGQ
open Go Go.Proofs Go.Proofs.YtmheohnbkaoipaaGreat.Vs
namespace Go.Proofs.YtmheohnbkaoipaaGreat.Vs
set_option linter.all false
set_option linter.unusedSimpArgs false
set_option linter.unusedVariables false
set_option maxRecDepth 100000
def bOk : List UInt8 := [111, 107]
def bNone : List UInt8 := [110, 111, 110, 101]
def bExists : List UInt8 := [101, 120, 105, 115, 116, 115]
def bFull : List UInt8 := [102, 117, 108, 108]
noncomputable def comS (s : DtCSet) (m : DtCmd) : DtCSet := if 0 ≤ findN s.fSnaps m.fName then s else if s.fSnaps.length = 5 then s else { fName := s.fName, fSnaps := s.fSnaps ++ [{ fName := m.fName, fTag := [], fChunks := m.fChunks }] }
noncomputable def comR (s : DtCSet) (m : DtCmd) : List UInt8 := if 0 ≤ findN s.fSnaps m.fName then bExists else if s.fSnaps.length = 5 then bFull else bOk
theorem com_e {s : DtCSet} {m : DtCmd} (h : 0 ≤ findN s.fSnaps m.fName) : comS s m = s ∧ comR s m = bExists := by unfold comS comR; rw [if_pos h, if_pos h]; exact ⟨rfl, rfl⟩
theorem com_f {s : DtCSet} {m : DtCmd} (h : findN s.fSnaps m.fName < 0) (h5 : (s.fSnaps.length : Int) = 5) : comS s m = s ∧ comR s m = bFull := by unfold comS comR; rw [if_neg (by omega), if_pos (by omega), if_neg (by omega), if_pos (by omega)]; exact ⟨rfl, rfl⟩
theorem com_k {s : DtCSet} {m : DtCmd} (h : findN s.fSnaps m.fName < 0) (h5 : ¬ (s.fSnaps.length : Int) = 5) : comS s m = { fName := s.fName, fSnaps := s.fSnaps ++ [{ fName := m.fName, fTag := [], fChunks := m.fChunks }] } ∧ comR s m = bOk := by unfold comS comR; rw [if_neg (by omega), if_neg (by omega), if_neg (by omega), if_neg (by omega)]; exact ⟨rfl, rfl⟩
noncomputable def tagS (s : DtCSet) (m : DtCmd) : DtCSet := if h : 0 ≤ findN s.fSnaps m.fName ∧ (findN s.fSnaps m.fName).toNat < s.fSnaps.length then { fName := s.fName, fSnaps := s.fSnaps.set (findN s.fSnaps m.fName).toNat { s.fSnaps[(findN s.fSnaps m.fName).toNat]'h.2 with fTag := m.fTag } } else s
noncomputable def tagR (s : DtCSet) (m : DtCmd) : List UInt8 := if 0 ≤ findN s.fSnaps m.fName then bOk else bNone
theorem zl3 {α : Type} (p : α → Bool) (l : List α) (h : 0 ≤ idxZ p l) : (idxZ p l).toNat < l.length := by
 unfold idxZ at h ⊢
 cases hf : l.findIdx? p with
 | none => rw [hf] at h; simp at h
 | some i =>
  obtain ⟨h1, -⟩ := List.findIdx?_eq_some_iff_getElem.1 hf
  simpa using h1
theorem tag_n {s : DtCSet} {m : DtCmd} (h : findN s.fSnaps m.fName < 0) : tagS s m = s ∧ tagR s m = bNone := by unfold tagS tagR; rw [dif_neg (by omega), if_neg (by omega)]; exact ⟨rfl, rfl⟩
theorem tag_k {s : DtCSet} {m : DtCmd} (h : 0 ≤ findN s.fSnaps m.fName) (h2 : (findN s.fSnaps m.fName).toNat < s.fSnaps.length) : tagS s m = { fName := s.fName, fSnaps := s.fSnaps.set (findN s.fSnaps m.fName).toNat { s.fSnaps[(findN s.fSnaps m.fName).toNat]'h2 with fTag := m.fTag } } ∧ tagR s m = bOk := by unfold tagS tagR; rw [dif_pos ⟨h, h2⟩, if_pos h]; exact ⟨rfl, rfl⟩
theorem zre {zs : List SetV} {k : Nat} (h : k < zs.length) (y : List AV) : ((zs.map setV).set k y)[k]? = some y := by simp [h]
attribute [local simp] DtCmd.cells DtCSet.cells zbp List.set_set List.getD_eq_getElem?_getD
theorem commitX (l : List DtCSet) (hl : l.length ≤ 1048576) (k : Nat) (hk : k < l.length) (h5 : l[k].fSnaps.length ≤ 5) (m : DtCmd) (hm : m.fChunks.length ≤ 1048576) : XCall Tryz.prog 63 [.eptr 8 k 0, .agg (DtCmd.cells m)] [.own 2 (l.map DtCSet.cells)] (.s (comR l[k] m)) [.own 2 ((l.set k (comS l[k] m)).map DtCSet.cells)] [] := by
 refine zbx Tryz.func63 (by rfl) (by rfl) (by rw [Tryz.ntmps63]; exact Nat.le_of_ble_eq_true rfl) rfl (by simp) rfl rfl ?_
 rw [Tryz.ntmps63]
 refine zh3 (.own 2 (l.map DtCSet.cells)) (by simp [cvO] <;> assumption) ?_
 refine AW_k [(0, _), (1, _)] ⟨rfl, rfl, trivial⟩ ?_
 refine zgh 8 901 902 k hk (by simp [zbe, zbc, zbj]) (by simp [zbe, zbc, zbj]) (by simp [zbe, zbc, zbj]) (by decide) (by decide) (by decide) fun zs hz => ?_
 have hkz : k < zs.length := by rw [← hz] at hk; simpa using hk
 have hset := @zre zs k hkz
 refine AW_x rfl rfl fun K hK => ?_
 simp (disch := omega) [hset]
 repeat' first | (refine ⟨by omega, ?_⟩) | (intro _)
 refine hK _ ?_; clear hK K
 refine zbm ?_
 refine zbt ?_
 refine AW_d rfl mix (by kernel_rfl) (by kernel_rfl) fun K hK => ?_
 simp (disch := omega) [hset]
 repeat' first | (exfalso; omega) | (refine zsx (fun st' => (zbh (zbz rfl) (zbh zgv zbs))) (snap l[k] m.fName (by omega)) rfl ?_; simp (disch := omega) [hset]) | (refine zsy (snap l[k] m.fName (by omega)) (by rfl) (fun st' hst => ?_) ?_; (focus (simp (disch := omega) [hset] at hst; simp (disch := omega) [hset, hst, zbp]; done)); simp (disch := omega) [hset]) | (refine ⟨by omega, ?_⟩) | (simp (disch := omega) [hset]) | (intro _)
 refine hK _ _ (by kernel_rfl) ?_; clear hK K
 refine zbl rfl (fun hc1 => ?_) (fun hc1 => ?_)
 ·try simp [zba, zbb, zbf, zbd] at hc1
  all_goals
   refine zcu 8 901 902 k hz hk l[k].fName l[k].fSnaps (by simp [zbe, zbc, zbj]) (by simp [zbe, zbc, zbj]) (by simp [zbe, zbc, zbj]) (by decide) (by decide) (by decide) ?_
   refine AW_x rfl rfl fun K hK => ?_
   simp (disch := omega) [hset]
   repeat' first | (exfalso; omega) | (refine ⟨fun _ => ?_, fun _ => ?_⟩) | (refine ⟨by omega, ?_⟩) | (simp (disch := omega) [hset]) | (intro _)
   all_goals (refine hK _ ?_; clear hK K)
   all_goals
    refine zbo (zcc [] [] (by simp [List.range_succ, zbc, zbj, zbe]) (by simp) ?_)
    simp (disch := omega) [hset]
    all_goals first | (have ⟨h1, h2⟩ := com_e hc1; rw [h1, h2]; exact ⟨rfl, rfl⟩) | (have ⟨h1, h2⟩ := com_f hc1 hc2; rw [h1, h2]; exact ⟨rfl, rfl⟩) | (have ⟨h1, h2⟩ := com_k hc1 hc2; rw [h1, h2]; exact ⟨rfl, by simp [DtCSnap.cells]⟩) | trace_state
 try simp [zba, zbb, zbf, zbd] at hc1
 refine AW_x rfl rfl fun K hK => ?_
 simp (disch := omega) [hset]
 repeat' first | (exfalso; omega) | (refine ⟨fun _ => ?_, fun _ => ?_⟩) | (refine ⟨by omega, ?_⟩) | (simp (disch := omega) [hset]) | (intro _)
 all_goals (refine hK _ ?_; clear hK K)
 all_goals
  refine zbl rfl (fun hc2 => ?_) (fun hc2 => ?_)
  ·try simp [zba, zbb, zbf, zbd] at hc2
   all_goals
    refine zcu 8 901 902 k hz hk l[k].fName l[k].fSnaps (by simp [zbe, zbc, zbj]) (by simp [zbe, zbc, zbj]) (by simp [zbe, zbc, zbj]) (by decide) (by decide) (by decide) ?_
    refine AW_x rfl rfl fun K hK => ?_
    simp (disch := omega) [hset]
    repeat' first | (exfalso; omega) | (refine ⟨fun _ => ?_, fun _ => ?_⟩) | (refine ⟨by omega, ?_⟩) | (simp (disch := omega) [hset]) | (intro _)
    all_goals (refine hK _ ?_; clear hK K)
    all_goals
     refine zbo (zcc [] [] (by simp [List.range_succ, zbc, zbj, zbe]) (by simp) ?_)
     simp (disch := omega) [hset]
     all_goals first | (have ⟨h1, h2⟩ := com_e hc1; rw [h1, h2]; exact ⟨rfl, rfl⟩) | (have ⟨h1, h2⟩ := com_f hc1 hc2; rw [h1, h2]; exact ⟨rfl, rfl⟩) | (have ⟨h1, h2⟩ := com_k hc1 hc2; rw [h1, h2]; exact ⟨rfl, by simp [DtCSnap.cells]⟩) | trace_state
  try simp [zba, zbb, zbf, zbd] at hc2
  refine zbn ?_
  refine zbq ?_
  refine AW_d rfl mix (by kernel_rfl) (by kernel_rfl) fun K hK => ?_
  simp (disch := omega) [hset]
  repeat' first | (exfalso; omega) | (refine zhm [] true [] (zng m.fChunks (by omega)) ?_ (fun st' hst => ?_) ?_; (focus (simp [List.range_succ, nmC]; done)); (focus (simp (disch := omega) [hset, nmC, List.range_succ] at hst; simp (disch := omega) [hset, hst, zbp, nmC, List.range_succ]; done)); simp (disch := omega) [hset]) | (refine ⟨fun _ => ?_, fun _ => ?_⟩) | (refine ⟨by omega, ?_⟩) | (simp (disch := omega) [hset]) | (intro _)
  all_goals (refine hK _ _ (by kernel_rfl) ?_; clear hK K)
  all_goals
   refine zcu 8 901 528 k hz hk l[k].fName (l[k].fSnaps ++ [{ fName := m.fName, fTag := [], fChunks := m.fChunks }]) (by simp [zbe, zbc, zbj]) (by simp [zbe, zbc, zbj]) (by simp [zbe, zbc, zbj, DtCSnap.cells]) (by decide) (by decide) (by decide) ?_
   refine AW_x rfl rfl fun K hK => ?_
   simp (disch := omega) [hset]
   repeat' first | (refine ⟨by omega, ?_⟩) | (intro _)
   refine hK _ ?_; clear hK K
   refine zbo (zcc [] [] (by simp [List.range_succ, zbc, zbj, zbe]) (by simp) ?_)
   simp (disch := omega) [hset]
   all_goals first | (have ⟨h1, h2⟩ := com_e hc1; rw [h1, h2]; exact ⟨rfl, rfl⟩) | (have ⟨h1, h2⟩ := com_f hc1 hc2; rw [h1, h2]; exact ⟨rfl, rfl⟩) | (have ⟨h1, h2⟩ := com_k hc1 hc2; rw [h1, h2]; exact ⟨rfl, by simp [DtCSnap.cells]⟩) | trace_state
theorem tagX (l : List DtCSet) (hl : l.length ≤ 1048576) (k : Nat) (hk : k < l.length) (h5 : l[k].fSnaps.length ≤ 5) (m : DtCmd) (hm : m.fChunks.length ≤ 1048576) : XCall Tryz.prog 64 [.eptr 8 k 0, .agg (DtCmd.cells m)] [.own 2 (l.map DtCSet.cells)] (.s (tagR l[k] m)) [.own 2 ((l.set k (tagS l[k] m)).map DtCSet.cells)] [] := by
 refine zbx Tryz.func64 (by rfl) (by rfl) (by rw [Tryz.ntmps64]; exact Nat.le_of_ble_eq_true rfl) rfl (by simp) rfl rfl ?_
 rw [Tryz.ntmps64]
 refine zh3 (.own 2 (l.map DtCSet.cells)) (by simp [cvO] <;> assumption) ?_
 refine AW_k [(0, _), (1, _)] ⟨rfl, rfl, trivial⟩ ?_
 refine zgh 8 901 902 k hk (by simp [zbe, zbc, zbj]) (by simp [zbe, zbc, zbj]) (by simp [zbe, zbc, zbj]) (by decide) (by decide) (by decide) fun zs hz => ?_
 have hkz : k < zs.length := by rw [← hz] at hk; simpa using hk
 have hset := @zre zs k hkz
 refine AW_x rfl rfl fun K hK => ?_
 simp (disch := omega) [hset]
 repeat' first | (refine ⟨by omega, ?_⟩) | (intro _)
 refine hK _ ?_; clear hK K
 refine AW_d rfl mix (by kernel_rfl) (by kernel_rfl) fun K hK => ?_
 simp (disch := omega) [hset]
 repeat' first | (exfalso; omega) | (refine zsx (fun st' => (zbh (zbz rfl) (zbh zgv zbs))) (snap l[k] m.fName (by omega)) rfl ?_; simp (disch := omega) [hset]) | (refine zsy (snap l[k] m.fName (by omega)) (by rfl) (fun st' hst => ?_) ?_; (focus (simp (disch := omega) [hset] at hst; simp (disch := omega) [hset, hst, zbp]; done)); simp (disch := omega) [hset]) | (refine ⟨by omega, ?_⟩) | (simp (disch := omega) [hset]) | (intro _)
 refine hK _ _ (by kernel_rfl) ?_; clear hK K
 refine zbm ?_
 refine AW_x rfl rfl fun K hK => ?_
 simp (disch := omega) [hset]
 repeat' first | (refine ⟨by omega, ?_⟩) | (intro _)
 refine hK _ ?_; clear hK K
 refine zbl rfl (fun hc3 => ?_) (fun hc3 => ?_)
 ·try simp [zba, zbb, zbf, zbd] at hc3
  all_goals
   refine zcu 8 901 902 k hz hk l[k].fName (l[k].fSnaps) (by simp [zbe, zbc, zbj]) (by simp [zbe, zbc, zbj]) (by simp [zbe, zbc, zbj, DtCSnap.cells]) (by decide) (by decide) (by decide) ?_
   refine AW_x rfl rfl fun K hK => ?_
   simp (disch := omega) [hset]
   repeat' first | (exfalso; omega) | (refine ⟨fun _ => ?_, fun _ => ?_⟩) | (refine ⟨by omega, ?_⟩) | (simp (disch := omega) [hset]) | (intro _)
   all_goals (refine hK _ ?_; clear hK K)
   all_goals
    refine zbo (zcc [] [] (by simp [List.range_succ, zbc, zbj, zbe]) (by simp) ?_)
    simp (disch := omega) [hset]
    all_goals first | (have ⟨h1, h2⟩ := tag_n hc3; rw [h1, h2]; exact ⟨rfl, rfl⟩) | (have ⟨h1, h2⟩ := tag_k hc3 hj; rw [h1, h2]; exact ⟨rfl, by simp [DtCSnap.cells]⟩) | trace_state
 try simp [zba, zbb, zbf, zbd] at hc3
 refine zbn ?_
 refine zbq ?_
 have hj := zl3 (fun p => eqB p.fName m.fName) l[k].fSnaps (by have h := hc3; unfold findN at h; omega)
 change (findN l[k].fSnaps m.fName).toNat < l[k].fSnaps.length at hj
 refine AW_d rfl mix (by kernel_rfl) (by kernel_rfl) fun K hK => ?_
 simp (disch := omega) [hset]
 repeat' first | (exfalso; omega) | (refine ⟨fun _ => ?_, fun _ => ?_⟩) | (refine ⟨by omega, ?_⟩) | (simp (disch := omega) [hset]) | (intro _)
 all_goals (refine hK _ _ (by kernel_rfl) ?_; clear hK K)
 all_goals
  refine zcu 8 901 902 k hz hk l[k].fName (l[k].fSnaps.set (findN l[k].fSnaps m.fName).toNat { l[k].fSnaps[(findN l[k].fSnaps m.fName).toNat] with fTag := m.fTag }) (by simp [zbe, zbc, zbj, List.length_set]) (by simp [zbe, zbc, zbj]) (by simp [zbe, zbc, zbj, DtCSnap.cells]) (by decide) (by decide) (by decide) ?_
  refine AW_x rfl rfl fun K hK => ?_
  simp (disch := omega) [hset]
  repeat' first | (refine ⟨by omega, ?_⟩) | (intro _)
  refine hK _ ?_; clear hK K
  refine zbo (zcc [] [] (by simp [List.range_succ, zbc, zbj, zbe]) (by simp) ?_)
  simp (disch := omega) [hset]
  all_goals first | (have ⟨h1, h2⟩ := tag_n hc3; rw [h1, h2]; exact ⟨rfl, rfl⟩) | (have ⟨h1, h2⟩ := tag_k hc3 hj; rw [h1, h2]; exact ⟨rfl, by simp [DtCSnap.cells]⟩) | trace_state
end Go.Proofs.YtmheohnbkaoipaaGreat.Vs

import Derived.Test.YtmheohnbkaoipaaGreatSSpQ
import Derived.Test.YtmheohnbkaoipaaGreatSDoQ
open Go Go.Proofs Go.Proofs.YtmheohnbkaoipaaGreat.Vs
namespace Go.Proofs.YtmheohnbkaoipaaGreat.Vs
set_option linter.all false
set_option linter.unusedSimpArgs false
set_option linter.unusedVariables false
set_option maxRecDepth 100000
set_option maxHeartbeats 1000000
theorem zvl (z : Int) (h0 : 0 ≤ z) (h : z < 10) : PCall Tryz.prog 80 [(.g (.int .i64 (z)))] (.s (digN z.toNat)) := by
 have := specDec z.toNat (by omega)
 rwa [show ((z.toNat : Nat) : Int) = z by omega] at this
theorem take_del {α : Type} (A : List α) {n : Nat} (k : Nat) (h : A.length = n) : List.take k (List.take k A) ++ List.take (n - (k + 1)) (List.drop (k + 1) A) = List.take k A ++ List.drop (k + 1) A := by rw [List.take_take, Nat.min_self, List.take_of_length_le (l := List.drop (k + 1) A) (by simp; omega)]
theorem zja (l : List DtCSet) (k : Nat) (hk : k < l.length) : l.set k { fName := l[k].fName, fSnaps := l[k].fSnaps } = l := List.set_getElem_self hk
attribute [local simp] DtCatalog.cells DtCmd.cells DtCSet.cells zbp List.set_set List.getD_eq_getElem?_getD and_assoc zcm zcf
theorem l15SetX (l : List DtCSet) (hl : l.length ≤ 1048576) (k : Nat) (hk : k < l.length) (m : DtCmd) (h5 : l[k].fSnaps.length ≤ 5) (hrd : (spc (tldL l[k])).length ≤ 1073741824) (hN0 : m.fKind = 5 → 0 ≤ m.fN ∧ m.fN ≤ 9) (hch : m.fChunks.length ≤ 1048576) : XCall Tryz.prog 50 [.agg [.arr 8 0 l.length], (.g (.int .i64 ((k : Nat)))), .agg (DtCmd.cells m)] [.own 2 (l.map DtCSet.cells)] (.tup [.agg [.arr 16 0 (setS l k m).length], .s (setR l k m)]) [.dead] [.own 2 ((setS l k m).map DtCSet.cells)] := by
 refine zbx Tryz.func50 (by rfl) (by rfl) (by rw [Tryz.ntmps50]; exact Nat.le_of_ble_eq_true rfl) rfl (by simp) rfl rfl ?_
 rw [Tryz.ntmps50]
 refine zh3 (.own 2 (l.map DtCSet.cells)) (by simp [cvO] <;> assumption) ?_
 refine AW_k [(0, _), (1, _), (2, _)] ⟨rfl, rfl, rfl, trivial⟩ ?_
 refine zgh 8 901 902 k hk (by simp [zbe, zbc, zbj]) (by simp [zbe, zbc, zbj]) (by simp [zbe, zbc, zbj]) (by decide) (by decide) (by decide) fun zs hz => ?_
 have hkz : k < zs.length := by rw [← hz] at hk; simpa using hk
 have hset := @zre zs k hkz
 refine AW_x rfl rfl fun K hK => ?_
 simp (disch := omega) [hset]
 repeat' first | (refine ⟨by omega, ?_⟩) | (intro _)
 refine hK _ ?_; clear hK K
 refine AW_x rfl rfl fun K hK => ?_
 simp (disch := omega) [hset]
 repeat' first | (refine ⟨by omega, ?_⟩) | (simp (disch := omega) [hset]) | (intro _)
 refine hK _ ?_; clear hK K
 refine AW_x rfl rfl fun K hK => ?_
 simp (disch := omega) [hset]
 repeat' first | (exfalso; omega) | (refine zdq (zbh (zbz rfl) (zbh zgv zbs)) (zs7 l[k] m.fName (by omega)) rfl ?_; simp (disch := omega) [hset]) | (refine zdr (zs7 l[k] m.fName (by omega)) (by rfl) ?_ ?_; (focus (simp (disch := omega) [hset, zbp]; done)); simp (disch := omega) [hset]) | (refine ⟨by omega, ?_⟩) | (simp (disch := omega) [hset]) | (intro _)
 refine hK _ ?_; clear hK K
 refine zbm ?_
 refine AW_x rfl rfl fun K hK => ?_
 simp (disch := omega) [hset]
 repeat' first | (refine ⟨by omega, ?_⟩) | (intro _)
 refine hK _ ?_; clear hK K
 refine zbt ?_
 refine AW_x rfl rfl fun K hK => ?_
 simp (disch := omega) [hset]
 repeat' first | (refine ⟨by omega, ?_⟩) | (intro _)
 refine hK _ ?_; clear hK K
 refine zbl rfl (fun hc1 => ?_) (fun hc1 => ?_)
 ·try simp [zba, zbb, zbf, zbd] at hc1
  all_goals
   refine zcu 8 901 902 k hz hk l[k].fName l[k].fSnaps (by simp [zbe, zbc, zbj]) (by simp [zbe, zbc, zbj]) (by simp [zbe, zbc, zbj]) (by decide) (by decide) (by decide) ?_
   rw [zja l k hk]
   refine zd9 (us := l) 8 903 (by simp [zbe, zbc, zbj]) (by simp [zbe, zbc, zbj]) fun zs2 hz2 hone => ?_
   have hzl2 : zs2.length = l.length := by rw [← hz2]; simp
   refine AW_x rfl rfl fun K hK => ?_
   simp (disch := omega) [hset]
   repeat' first | (exfalso; omega) | (refine ⟨fun _ => ?_, fun _ => ?_⟩) | (refine ⟨by omega, ?_⟩) | (simp (disch := omega) [hset]) | (intro _)
   all_goals (refine hK _ ?_; clear hK K)
   all_goals
    refine AW_x rfl rfl fun K hK => ?_
    simp (disch := omega) [hset]
    repeat' first | (refine ⟨by omega, ?_⟩) | (simp (disch := omega) [hset]) | (intro _)
    refine hK _ ?_; clear hK K
    refine zfk (zhn (ks := zs2.take k ++ zs2.drop (k + 1)) (zs := zs2) 640 903 (by simp [zbe, zbc, zbj]; exact take_del _ k (by rw [List.length_map, hzl2])) (by simp [zbe, zbc, zbj]) (ztc zs2 k)) ?_
    rw [del_c hz2 k]
    refine AW_x rfl rfl fun K hK => ?_
    simp (disch := omega) [hset]
    repeat' first | (refine ⟨by omega, ?_⟩) | (simp (disch := omega) [hset]) | (intro _)
    refine hK _ ?_; clear hK K
    refine zbo (zcc [640] [] (by simp [List.range_succ, zbc, zbj, zbe]) (by simp) ?_)
    simp (disch := omega) [hset]
    have ⟨h1, h2⟩ := @set_2 l k m hc1; rw [h1, h2]; exact ⟨by simp; omega, rfl, by simp⟩
 try simp [zba, zbb, zbf, zbd] at hc1
 refine AW_x rfl rfl fun K hK => ?_
 simp (disch := omega) [hset]
 repeat' first | (exfalso; omega) | (refine ⟨fun _ => ?_, fun _ => ?_⟩) | (refine ⟨by omega, ?_⟩) | (simp (disch := omega) [hset]) | (intro _)
 all_goals (refine hK _ ?_; clear hK K)
 all_goals
  refine zbl rfl (fun hc2 => ?_) (fun hc2 => ?_)
  ·try simp [zba, zbb, zbf, zbd] at hc2
   all_goals
    refine zbm ?_
    refine AW_x rfl rfl fun K hK => ?_
    simp (disch := omega) [hset]
    repeat' first | (exfalso; omega) | (refine ⟨fun _ => ?_, fun _ => ?_⟩) | (refine ⟨by omega, ?_⟩) | (simp (disch := omega) [hset]) | (intro _)
    all_goals (refine hK _ ?_; clear hK K)
    all_goals
     refine zbl rfl (fun hc3 => ?_) (fun hc3 => ?_)
     ·try simp [zba, zbb, zbf, zbd] at hc3
      all_goals
       refine zcu 8 901 902 k hz hk l[k].fName l[k].fSnaps (by simp [zbe, zbc, zbj]) (by simp [zbe, zbc, zbj]) (by simp [zbe, zbc, zbj]) (by decide) (by decide) (by decide) ?_
       rw [zja l k hk]
       refine AW_x rfl rfl fun K hK => ?_
       simp (disch := omega) [hset]
       repeat' first | (exfalso; omega) | (refine ⟨fun _ => ?_, fun _ => ?_⟩) | (refine ⟨by omega, ?_⟩) | (simp (disch := omega) [hset]) | (intro _)
       all_goals (refine hK _ ?_; clear hK K)
       all_goals
        refine zbo (zcc [8] [] (by simp [List.range_succ, zbc, zbj, zbe]) (by simp) ?_)
        simp (disch := omega) [hset]
        have ⟨h1, h2⟩ := zwz hk hc2; have ⟨h3, h4⟩ := com_e hc3; rw [h1, h2, h3, h4]; exact ⟨by simp, rfl, by rw [List.set_getElem_self]⟩
     try simp [zba, zbb, zbf, zbd] at hc3
     refine zbn ?_
     refine zbq ?_
     refine zbm ?_
     refine AW_x rfl rfl fun K hK => ?_
     simp (disch := omega) [hset]
     repeat' first | (exfalso; omega) | (refine ⟨fun _ => ?_, fun _ => ?_⟩) | (refine ⟨by omega, ?_⟩) | (simp (disch := omega) [hset]) | (intro _)
     all_goals (refine hK _ ?_; clear hK K)
     all_goals
      refine zbl rfl (fun hc4 => ?_) (fun hc4 => ?_)
      ·try simp [zba, zbb, zbf, zbd] at hc4
       all_goals
        refine zcu 8 901 902 k hz hk l[k].fName l[k].fSnaps (by simp [zbe, zbc, zbj]) (by simp [zbe, zbc, zbj]) (by simp [zbe, zbc, zbj]) (by decide) (by decide) (by decide) ?_
        rw [zja l k hk]
        refine AW_x rfl rfl fun K hK => ?_
        simp (disch := omega) [hset]
        repeat' first | (exfalso; omega) | (refine ⟨fun _ => ?_, fun _ => ?_⟩) | (refine ⟨by omega, ?_⟩) | (simp (disch := omega) [hset]) | (intro _)
        all_goals (refine hK _ ?_; clear hK K)
        all_goals
         refine zbo (zcc [8] [] (by simp [List.range_succ, zbc, zbj, zbe]) (by simp) ?_)
         simp (disch := omega) [hset]
         have ⟨h1, h2⟩ := zwz hk hc2; have ⟨h3, h4⟩ := com_f hc3 (by omega); rw [h1, h2, h3, h4]; exact ⟨by simp, rfl, by rw [List.set_getElem_self]⟩
      try simp [zba, zbb, zbf, zbd] at hc4
      refine zbn ?_
      refine zbq ?_
      refine zf6 (us := l[k].fSnaps) 902 903 (by simp [zbe, zbc, zbj]) (by simp [zbe, zbc, zbj]) fun ys hys hone => ?_
      have hyl : ys.length = l[k].fSnaps.length := by rw [← hys]; simp
      refine AW_x rfl rfl fun K hK => ?_
      simp (disch := omega) [hset]
      repeat' first | (exfalso; omega) | (refine ⟨fun _ => ?_, fun _ => ?_⟩) | (refine ⟨by omega, ?_⟩) | (simp (disch := omega) [hset]) | (intro _)
      all_goals (refine hK _ ?_; clear hK K)
      all_goals
       refine zfk (zkq (ks := ys) (zs := ys) 896 903 (by simp [zbe, zbc, zbj, List.take_of_length_le, hyl]) (by simp [zbe, zbc, zbj]) (List.Sublist.refl _)) ?_
       have hsn : (ys.map fun z => DtCSnap.cells z.1) = l[k].fSnaps.map DtCSnap.cells := by rw [← hys, List.map_map]; rfl
       rw [hsn]
       refine AW_d rfl mix (by kernel_rfl) (by kernel_rfl) fun K hK => ?_
       simp (disch := omega) [hset]
       repeat' first | (refine ⟨by omega, ?_⟩) | (simp (disch := omega) [hset]) | (intro _)
       refine hK _ _ (by kernel_rfl) ?_; clear hK K
       refine zcu 8 901 1104 k hz hk l[k].fName (l[k].fSnaps ++ [{ fName := m.fName, fTag := [], fChunks := m.fChunks }]) (by simp [zbe, zbc, zbj, hyl]) (by simp [zbe, zbc, zbj]) (by simp [zbe, zbc, zbj, DtCSnap.cells]) (by decide) (by decide) (by decide) ?_
       refine AW_x rfl rfl fun K hK => ?_
       simp (disch := omega) [hset]
       repeat' first | (refine ⟨by omega, ?_⟩) | (simp (disch := omega) [hset]) | (intro _)
       refine hK _ ?_; clear hK K
       refine zbo (zcc [8] [] (by simp [List.range_succ, zbc, zbj, zbe]) (by simp) ?_)
       simp (disch := omega) [hset]
       have ⟨h1, h2⟩ := zwz hk hc2; have ⟨h3, h4⟩ := com_k hc3 (by omega); rw [h1, h2, h3, h4]; exact ⟨by simp, rfl, by simp [DtCSet.cells, DtCSnap.cells]⟩
  try simp [zba, zbb, zbf, zbd] at hc2
  refine AW_x rfl rfl fun K hK => ?_
  simp (disch := omega) [hset]
  repeat' first | (exfalso; omega) | (refine ⟨fun _ => ?_, fun _ => ?_⟩) | (refine ⟨by omega, ?_⟩) | (simp (disch := omega) [hset]) | (intro _)
  all_goals (refine hK _ ?_; clear hK K)
  all_goals
   refine zbl rfl (fun hc5 => ?_) (fun hc5 => ?_)
   ·try simp [zba, zbb, zbf, zbd] at hc5
    all_goals
     refine zbm ?_
     refine AW_x rfl rfl fun K hK => ?_
     simp (disch := omega) [hset]
     repeat' first | (exfalso; omega) | (refine ⟨fun _ => ?_, fun _ => ?_⟩) | (refine ⟨by omega, ?_⟩) | (simp (disch := omega) [hset]) | (intro _)
     all_goals (refine hK _ ?_; clear hK K)
     all_goals
      refine zbl rfl (fun hc6 => ?_) (fun hc6 => ?_)
      ·try simp [zba, zbb, zbf, zbd] at hc6
       all_goals
        refine zcu 8 901 902 k hz hk l[k].fName l[k].fSnaps (by simp [zbe, zbc, zbj]) (by simp [zbe, zbc, zbj]) (by simp [zbe, zbc, zbj]) (by decide) (by decide) (by decide) ?_
        rw [zja l k hk]
        refine AW_x rfl rfl fun K hK => ?_
        simp (disch := omega) [hset]
        repeat' first | (exfalso; omega) | (refine ⟨fun _ => ?_, fun _ => ?_⟩) | (refine ⟨by omega, ?_⟩) | (simp (disch := omega) [hset]) | (intro _)
        all_goals (refine hK _ ?_; clear hK K)
        all_goals
         refine zbo (zcc [8] [] (by simp [List.range_succ, zbc, zbj, zbe]) (by simp) ?_)
         simp (disch := omega) [hset]
         have ⟨h1, h2⟩ := set_4 hk hc5; have ⟨h3, h4⟩ := tag_n hc6; rw [h1, h2, h3, h4]; exact ⟨by simp, rfl, by rw [List.set_getElem_self]⟩
      try simp [zba, zbb, zbf, zbd] at hc6
      refine zbn ?_
      refine zbq ?_
      have hj := zl3 (fun p => eqB p.fName m.fName) l[k].fSnaps (by have h := hc6; unfold findN at h; omega)
      change (findN l[k].fSnaps m.fName).toNat < l[k].fSnaps.length at hj
      refine AW_d rfl mix (by kernel_rfl) (by kernel_rfl) fun K hK => ?_
      simp (disch := omega) [hset]
      repeat' first | (exfalso; omega) | (refine ⟨fun _ => ?_, fun _ => ?_⟩) | (refine ⟨by omega, ?_⟩) | (simp (disch := omega) [hset]) | (intro _)
      all_goals (refine hK _ _ (by kernel_rfl) ?_; clear hK K)
      all_goals
       refine zcu 8 901 902 k hz hk l[k].fName (l[k].fSnaps.set (findN l[k].fSnaps m.fName).toNat { l[k].fSnaps[(findN l[k].fSnaps m.fName).toNat] with fTag := m.fTag }) (by simp [zbe, zbc, zbj, List.length_set]) (by simp [zbe, zbc, zbj]) (by simp [zbe, zbc, zbj, DtCSnap.cells]) (by decide) (by decide) (by decide) ?_
       refine AW_x rfl rfl fun K hK => ?_
       simp (disch := omega) [hset]
       repeat' first | (refine ⟨by omega, ?_⟩) | (simp (disch := omega) [hset]) | (intro _)
       refine hK _ ?_; clear hK K
       refine zbo (zcc [8] [] (by simp [List.range_succ, zbc, zbj, zbe]) (by simp) ?_)
       simp (disch := omega) [hset]
       have ⟨h1, h2⟩ := set_4 hk hc5; have ⟨h3, h4⟩ := tag_k hc6 hj; rw [h1, h2, h3, h4]; exact ⟨by simp, rfl, by simp [DtCSet.cells, DtCSnap.cells]⟩
   try simp [zba, zbb, zbf, zbd] at hc5
   refine AW_x rfl rfl fun K hK => ?_
   simp (disch := omega) [hset]
   repeat' first | (exfalso; omega) | (refine ⟨fun _ => ?_, fun _ => ?_⟩) | (refine ⟨by omega, ?_⟩) | (simp (disch := omega) [hset]) | (intro _)
   all_goals (refine hK _ ?_; clear hK K)
   all_goals
    refine zbl rfl (fun hc7 => ?_) (fun hc7 => ?_)
    ·try simp [zba, zbb, zbf, zbd] at hc7
     all_goals
      have hN := hN0 hc7
      refine AW_x rfl rfl fun K hK => ?_
      simp (disch := omega) [hset]
      repeat' first | (exfalso; omega) | (refine zdm [902] true [] (l15PruneX l[k].fSnaps (by omega) m.fN hN.1 (by omega)) ?_ ?_ ?_; (focus (simp [List.range_succ, nmC]; done)); (focus (simp (disch := omega) [hset, zbp]; done)); simp (disch := omega) [hset]) | (refine ⟨fun _ => ?_, fun _ => ?_⟩) | (refine ⟨by omega, ?_⟩) | (simp (disch := omega) [hset]) | (intro _)
      all_goals (refine hK _ ?_; clear hK K)
      all_goals
       refine AW_x rfl rfl fun K hK => ?_
       simp (disch := omega) [hset]
       repeat' first | (refine ⟨by omega, ?_⟩) | (simp (disch := omega) [hset]) | (intro _)
       refine hK _ ?_; clear hK K
       refine zcu 8 901 1552 k hz hk l[k].fName (pruS l[k] m.fN).fSnaps (by simp [zbe, zbc, zbj, pruS]) (by simp [zbe, zbc, zbj]) (by simp [zbe, zbc, zbj, pruS]) (by decide) (by decide) (by decide) ?_
       refine AW_d rfl mix (by kernel_rfl) (by kernel_rfl) fun K hK => ?_
       simp (disch := omega) [hset]
       repeat' first | (exfalso; omega) | (refine zsx (fun st' => (zbh zcp zbs)) (zvl (goneN l[k].fSnaps m.fN) (zl5 l[k].fSnaps m.fN h5 hN.1).1 (by have := (zl5 l[k].fSnaps m.fN h5 hN.1).2.1; omega)) rfl ?_; simp (disch := omega) [hset]) | (refine zsy (zvl (goneN l[k].fSnaps m.fN) (zl5 l[k].fSnaps m.fN h5 hN.1).1 (by have := (zl5 l[k].fSnaps m.fN h5 hN.1).2.1; omega)) (by rfl) (fun st' hst => ?_) ?_; (focus (simp (disch := omega) [hset] at hst; simp (disch := omega) [hset, hst, zbp]; done)); simp (disch := omega) [hset]) | (refine ⟨by omega, ?_⟩) | (simp (disch := omega) [hset]) | (intro _)
       refine hK _ _ (by kernel_rfl) ?_; clear hK K
       refine zbo (zcc [8] [] (by simp [List.range_succ, zbc, zbj, zbe]) (by simp) ?_)
       simp (disch := omega) [hset]
       have ⟨h1, h2⟩ := set_5 hk hc7; rw [h1, h2]; exact ⟨by simp, rfl, by simp [DtCSet.cells, pruS]⟩
    try simp [zba, zbb, zbf, zbd] at hc7
    refine zbn ?_
    refine zbq ?_
    refine AW_d rfl mix (by kernel_rfl) (by kernel_rfl) fun K hK => ?_
    simp (disch := omega) [hset]
    repeat' first | (exfalso; omega) | (refine zsx (fun st' => (zbh (zbz rfl) zbs)) (l15Read l[k] (by omega) hrd) rfl ?_; simp (disch := omega) [hset]) | (refine zsy (l15Read l[k] (by omega) hrd) (by rfl) (fun st' hst => ?_) ?_; (focus (simp (disch := omega) [hset] at hst; simp (disch := omega) [hset, hst, zbp]; done)); simp (disch := omega) [hset]) | (refine ⟨fun _ => ?_, fun _ => ?_⟩) | (refine ⟨by omega, ?_⟩) | (simp (disch := omega) [hset]) | (intro _)
    all_goals (refine hK _ _ (by kernel_rfl) ?_; clear hK K)
    all_goals
     refine zcu 8 901 902 k hz hk l[k].fName l[k].fSnaps (by simp [zbe, zbc, zbj]) (by simp [zbe, zbc, zbj]) (by simp [zbe, zbc, zbj]) (by decide) (by decide) (by decide) ?_
     rw [zja l k hk]
     refine zbo (zcc [8] [] (by simp [List.range_succ, zbc, zbj, zbe]) (by simp) ?_)
     simp (disch := omega) [hset]
     have ⟨h1, h2⟩ := set_6 hk hc1 hc2 hc5 hc7; rw [h1, h2]; exact ⟨rfl, rfl, rfl⟩
end Go.Proofs.YtmheohnbkaoipaaGreat.Vs

import Derived.Test.YtmheohnbkaoipaaGreatSMQ
open Go Go.Proofs Go.Proofs.YtmheohnbkaoipaaGreat.Vs
namespace Go.Proofs.YtmheohnbkaoipaaGreat.Vs
set_option linter.all false
set_option linter.unusedSimpArgs false
set_option linter.unusedVariables false
set_option maxRecDepth 100000
def tldL (s : DtCSet) : List (List UInt8) := s.fSnaps.map fun p => p.fName ++ 58 :: p.fTag
theorem scR_cS (l : List (List UInt8)) : scR (l.map cS) = true := zfp cS (fun _ => rfl) l
theorem set_own (l : List DtCSet) (k : Nat) (hk : k < l.length) : l.map DtCSet.cells = (l.map DtCSet.cells).set k (DtCSet.cells l[k]) := by rw [← List.map_set, List.set_getElem_self]
theorem tldL_bd (s : DtCSet) (i : Nat) (h : i < s.fSnaps.length) (hb : (spc (tldL s)).length ≤ 1073741824) : s.fSnaps[i].fName.length + 1 + s.fSnaps[i].fTag.length ≤ 1073741824 := by
 have hl : i < (tldL s).length := by simpa [tldL] using h
 have h1 := (zvh (tldL s) i hl hb).1
 have e : (tldL s)[i] = s.fSnaps[i].fName ++ 58 :: s.fSnaps[i].fTag := by simp [tldL]
 rw [e] at h1
 simp at h1
 omega
attribute [local simp] DtCSet.cells zbp List.set_set List.getD_eq_getElem?_getD zct cS and_assoc scR_cS
attribute [-simp] aAppC aAppZ
theorem toldX (l : List DtCSet) (hl : l.length ≤ 1048576) (k : Nat) (hk : k < l.length) (h5 : l[k].fSnaps.length ≤ 5) (hb : (spc (tldL l[k])).length ≤ 1073741824) : XCall Tryz.prog 66 [.eptr 8 k 0] [.own 2 (l.map DtCSet.cells)] (.s (spc (tldL l[k]))) [.own 2 (l.map DtCSet.cells)] [] := by
 have hll : (tldL l[k]).length = l[k].fSnaps.length := by simp [tldL]
 refine zbx Tryz.func66 (by rfl) (by rfl) (by rw [Tryz.ntmps66]; exact Nat.le_of_ble_eq_true rfl) rfl (by simp) rfl rfl ?_
 rw [Tryz.ntmps66]
 refine zh3 (.own 2 (l.map DtCSet.cells)) (by simp [cvO] <;> assumption) ?_
 refine AW_k [(0, _)] ⟨rfl, trivial⟩ ?_
 refine zgh 8 901 902 k hk (by simp [zbe, zbc, zbj]) (by simp [zbe, zbc, zbj]) (by simp [zbe, zbc, zbj]) (by decide) (by decide) (by decide) fun zs hz => ?_
 have hkz : k < zs.length := by rw [← hz] at hk; simpa using hk
 have hset := @zre zs k hkz
 refine zf6 (us := l[k].fSnaps) 902 903 (by simp [zbe, zbc, zbj]) (by simp [zbe, zbc, zbj]) fun ys hys hone => ?_
 have hyl : ys.length = l[k].fSnaps.length := by rw [← hys]; simp
 have hll : (tldL l[k]).length = l[k].fSnaps.length := by simp [tldL]
 refine AW_x rfl rfl fun K hK => ?_
 simp (disch := omega) [hset, hll]
 repeat' first | (refine ⟨by omega, ?_⟩) | (intro _)
 refine hK _ ?_; clear hK K
 refine AW_x rfl rfl fun K hK => ?_
 simp (disch := omega) [hset, hll]
 repeat' first | (refine ⟨by omega, ?_⟩) | (simp (disch := omega) [hset, hll]) | (intro _)
 refine hK _ ?_; clear hK K
 refine zbm ?_
 refine AW_x rfl rfl fun K hK => ?_
 simp (disch := omega) [hset, hll]
 repeat' first | (refine ⟨by omega, ?_⟩) | (simp (disch := omega) [hset, hll]) | (intro _)
 refine hK _ ?_; clear hK K
 refine zbt ?_
 refine zb5 (fun mM sS => ∃ (i : Nat), mM = ys.length - i ∧ (i ≤ ys.length) ∧ sS = { env := lkE [(0, .eptr 8 k 0), (3, .arr 904 0 i), (10, .arr 902 0 l[k].fSnaps.length), (11, (.g (.int .i64 ((l[k].fSnaps.length : Nat))))), (12, (.g (.int .i64 ((i : Nat)))))], ob := lk [(8, .win 2 ((zs.map setV).set k [.s l[k].fName, .arr 902 0 l[k].fSnaps.length])), (901, .park ((zs.take k).flatMap setP ++ (zs.drop (k + 1)).flatMap setP)), (902, .win 3 (ys.map snapV)), (903, .park (ys.flatMap snapP)), (904, .win 1 (((tldL l[k]).take i).map cS))] }) ?_ ?_
 ·refine ⟨_, LeS.kw [(8, 8), (901, 901), (902, 902), (903, 903), (904, 112)] [(0, .eptr 8 k 0), (3, .arr 904 0 (0)), (10, .arr 902 0 l[k].fSnaps.length), (11, (.g (.int .i64 ((l[k].fSnaps.length : Nat))))), (12, (.g (.int .i64 (((0) : Nat)))))] [(8, .win 2 ((zs.map setV).set k [.s l[k].fName, .arr 902 0 l[k].fSnaps.length])), (901, .park ((zs.take k).flatMap setP ++ (zs.drop (k + 1)).flatMap setP)), (902, .win 3 (ys.map snapV)), (903, .park (ys.flatMap snapP)), (904, .win 1 (((tldL l[k]).take (0)).map cS))] (by simp [KpR, renV2, renV, zbe, zbv, zbc, zbj, zcf, zct]; try (simp; done)) (by simp [KpOW, wnO, renO, plO, cvO, renV, pl1, zbc, zbj, zbe, zcf, zct]; first | exact .inr (zhd (zcm zs) ⟨rfl, rfl, rfl⟩) | exact ⟨.inr (zhd (zcm zs) ⟨rfl, rfl, rfl⟩), .inl ⟨by rw [htk, List.take_take, Nat.min_self]; rfl, zcs (zfp cS (fun _ => rfl) _) _⟩⟩ | trace_state) (by rfl) (by simp) (by simp) (by rfl) (by simp [formsX, List.range_succ, zbc, zbj]), _, 0, rfl, ?_, rfl⟩
  ·simp
 ·rintro mM sS ⟨i, rfl, hi, rfl⟩
  refine AW_x rfl rfl fun K hK => ?_
  simp (disch := omega) [hset, hll]
  repeat' first | (refine ⟨by omega, ?_⟩) | (intro _)
  refine hK _ ?_; clear hK K
  refine zbm ?_
  refine zbl rfl (fun hc1 => ?_) (fun hc1 => ?_)
  ·try simp [zba, zbb, zbf, zbd] at hc1
   all_goals
    have hyi : ys[i].1 = l[k].fSnaps[i] := by have h : (ys.map (·.1))[i]'(by simp; omega) = l[k].fSnaps[i] := by simp only [hys]
                                              simpa using h
    have hv1 : (ys[i].2 2).oneCell' = true := hone _ (List.getElem_mem _) 2
    simp only [Value.oneCell'] at hv1
    have htb := tldL_bd l[k] i (by omega) hb
    have htk := zwx cS (tldL l[k]) i (by omega)
    have htx : (tldL l[k])[i]'(by omega) = l[k].fSnaps[i].fName ++ 58 :: l[k].fSnaps[i].fTag := by simp [tldL]
    rw [htx] at htk
    rw [← hyi] at htb htk
    refine zbn ?_
    refine zbq ?_
    refine zbm ?_
    refine zbt ?_
    refine AW_x rfl rfl fun K hK => ?_
    simp (disch := omega) [hset, hll, hv1]
    repeat' first | (exfalso; omega) | (refine ⟨fun _ => ?_, fun _ => ?_⟩) | (refine ⟨by omega, ?_⟩) | (simp (disch := omega) [hset, hll, hv1]) | (intro _)
    all_goals (refine hK _ ?_; clear hK K)
    all_goals
     refine zcr rfl rfl fun K hK => ?_
     simp (disch := omega) [hset, hll, hv1]
     repeat' first | (refine ⟨by omega, ?_⟩) | (simp (disch := omega) [hset, hll, hv1]) | (intro _)
     refine hK _ ?_; clear hK K
     refine zbq ?_
     refine zcr rfl rfl fun K hK => ?_
     simp (disch := omega) [hset, hll, hv1]
     repeat' first | (refine ⟨by omega, ?_⟩) | (intro _)
     refine hK _ ?_; clear hK K
     refine ⟨_, LeS.kw [(8, 8), (901, 901), (902, 902), (903, 903), (904, 400)] [(0, .eptr 8 k 0), (3, .arr 904 0 (i + 1)), (10, .arr 902 0 l[k].fSnaps.length), (11, (.g (.int .i64 ((l[k].fSnaps.length : Nat))))), (12, (.g (.int .i64 (((i + 1) : Nat)))))] [(8, .win 2 ((zs.map setV).set k [.s l[k].fName, .arr 902 0 l[k].fSnaps.length])), (901, .park ((zs.take k).flatMap setP ++ (zs.drop (k + 1)).flatMap setP)), (902, .win 3 (ys.map snapV)), (903, .park (ys.flatMap snapP)), (904, .win 1 (((tldL l[k]).take (i + 1)).map cS))] (by simp [KpR, renV2, renV, zbe, zbv, zbc, zbj, zcf, zct]; try (first | omega | rfl)) (by simp [KpOW, wnO, renO, plO, cvO, renV, pl1, zbc, zbj, zbe, zcf, zct]; first | exact .inr (zhd (zcm zs) ⟨rfl, rfl, rfl⟩) | exact ⟨.inr (zhd (zcm zs) ⟨rfl, rfl, rfl⟩), .inl ⟨by rw [htk, List.take_take, Nat.min_self]; rfl, zcs (zfp cS (fun _ => rfl) _) _⟩⟩ | trace_state) (by rfl) (by simp) (by simp) (by rfl) (by simp [formsX, List.range_succ, zbc, zbj]), _, ?_, i + 1, rfl, ?_, rfl⟩
     ·omega
     ·omega
  try simp [zba, zbb, zbf, zbd] at hc1
  have hi3 : i = l[k].fSnaps.length := by omega
  refine zb7 ?_
  refine zbq ?_
  refine zfk (zkq (ks := ys) (zs := ys) 902 903 (by simp [zbe, zbc, zbj]) (by simp [zbe, zbc, zbj]) (List.Sublist.refl _)) ?_
  have hsn : (ys.map fun z => DtCSnap.cells z.1) = l[k].fSnaps.map DtCSnap.cells := by rw [← hys, List.map_map]; rfl
  rw [hsn]
  refine zcu 8 901 902 k hz hk l[k].fName l[k].fSnaps (by simp [zbe, zbc, zbj]) (by simp [zbe, zbc, zbj]) (by simp [zbe, zbc, zbj]) (by decide) (by decide) (by decide) ?_
  have htf : List.take i (List.map cS (tldL l[k])) = List.map cS (tldL l[k]) := List.take_of_length_le (by simp; omega)
  simp only [htf]
  subst hi3
  refine AW_x rfl rfl fun K hK => ?_
  simp (disch := omega) [hset, hll]
  repeat' first | (exfalso; omega) | (refine zdq (zbh zdd zbs) (zph (tldL l[k]) (by omega) hb) rfl ?_; simp (disch := omega) [hset, hll]) | (refine zdr (zph (tldL l[k]) (by omega) hb) (by rfl) ?_ ?_; (focus (simp (disch := omega) [hset, hll, zbp]; done)); simp (disch := omega) [hset, hll]) | (refine ⟨fun _ => ?_, fun _ => ?_⟩) | (refine ⟨by omega, ?_⟩) | (simp (disch := omega) [hset, hll]) | (intro _)
  all_goals (refine hK _ ?_; clear hK K)
  all_goals
   refine zbo (zcc [] [] (by simp [List.range_succ, zbc, zbj, zbe]) (by simp) ?_)
   simp (disch := omega) [hset, hll]
   all_goals first | rfl | exact ⟨rfl, rfl⟩ | exact set_own l k hk | trace_state
end Go.Proofs.YtmheohnbkaoipaaGreat.Vs

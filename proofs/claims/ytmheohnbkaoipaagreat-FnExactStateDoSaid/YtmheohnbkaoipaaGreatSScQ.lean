import Derived.Test.YtmheohnbkaoipaaGreatSSsQ
open Go Go.Proofs Go.Proofs.YtmheohnbkaoipaaGreat.Vs
namespace Go.Proofs.YtmheohnbkaoipaaGreat.Vs
set_option linter.all false
set_option linter.unusedSimpArgs false
set_option linter.unusedVariables false
set_option maxRecDepth 100000
set_option maxHeartbeats 1000000
def insK (zs : List SetV) (c : Nat) (n : List UInt8) (i : Nat) (p : Bool) : List SetV := if p = true then zs.take c ++ newV n :: (zs.take i).drop c else zs.take i
theorem zvm (zs : List SetV) (c : Nat) (n : List UInt8) (i : Nat) : insK zs c n i false = zs.take i := rfl
theorem zvn (zs : List SetV) (c : Nat) (n : List UInt8) (i : Nat) : insK zs c n i true = zs.take c ++ newV n :: (zs.take i).drop c := rfl
theorem insK_fs (zs : List SetV) (c : Nat) (n : List UInt8) (i : Nat) (h : i < zs.length) : insK zs c n (i + 1) false = insK zs c n i false ++ [zs[i]] := by rw [zvm, zvm, List.take_succ_eq_append_getElem h]
theorem insK_ts (zs : List SetV) (c : Nat) (n : List UInt8) (i : Nat) (h : i < zs.length) (hc : c ≤ i) : insK zs c n (i + 1) true = insK zs c n i true ++ [zs[i]] := by
 rw [zvn, zvn, List.take_succ_eq_append_getElem h, List.drop_append_of_le_length (by simp; omega)]; simp
theorem insK_n (zs : List SetV) (n : List UInt8) (i : Nat) (h : i < zs.length) : insK zs i n (i + 1) true = insK zs i n i false ++ [newV n] ++ [zs[i]] := by
 have e : List.drop i (List.take i zs) = [] := List.drop_eq_nil_of_le (by simp; omega)
 rw [insK_ts zs i n i h (Nat.le_refl _), zvn, zvm, e]
theorem insK_len (zs : List SetV) (c : Nat) (n : List UInt8) (i : Nat) (p : Bool) : (insK zs c n i p).length ≤ zs.length + 1 + zs.length := by
 cases p <;> simp [insK] <;> omega
theorem insK_e (zs : List SetV) (c : Nat) (n : List UInt8) : insK zs c n zs.length true = zs.take c ++ newV n :: zs.drop c := by rw [zvn, List.take_length]
theorem zvo {l : List DtCSet} {n : List UInt8} (h : findS l n < 0) (j : Nat) (hj : j < l.length) : ¬ l[j].fName = n := by
 intro e
 unfold findS idxZ at h
 split at h
 ·omega
 ·rename_i h2
  rw [List.findIdx?_eq_none_iff] at h2
  have := h2 _ (List.getElem_mem hj)
  rw [e, zbw] at this
  cases this
theorem zfd {α β : Type} (A : List α) (f : α → β) (y : β) : List.take (A.length + 1) (A.map f ++ [y]) = A.map f ++ [y] := List.take_of_length_le (by simp)
theorem zrj {zs : List SetV} {c : Nat} {n : List UInt8} {i : Nat} {p : Bool} (hi : i < zs.length) (hpt : p = true → c < i) : insK zs c n (i + 1) p = insK zs c n i p ++ [zs[i]] := by
 cases p with
 | false => exact insK_fs zs c n i hi
 | true => exact insK_ts zs c n i hi (by have := hpt rfl; omega)
theorem zl6 {l : List DtCSet} {zs : List SetV} {n : List UInt8} {i : Nat} {p : Bool} (hzl : zs.length = l.length) (hi : i < zs.length) (hpf : p = false → ∀ j (h : j < l.length), j < i → Op.bytesLess l[j].fName n = true) (hp : p = false) (hyi : zs[i].1 = l[i]'(by omega)) (h : Op.bytesLess zs[i].1.fName n = false) : insK zs (lessN l n) n (i + 1) true = insK zs (lessN l n) n i p ++ [newV n] ++ [zs[i]] ∧ lessN l n = i := by
 have e : lessN l n = i := zks n l i (by omega) (hpf hp) (fun hh => by rw [← hyi]; exact h)
 subst hp
 rw [e]
 exact ⟨insK_n zs n i hi, rfl⟩
theorem cr_end0 {l : List DtCSet} {zs : List SetV} {n : List UInt8} {i : Nat} {p : Bool} (hzl : zs.length = l.length) (hi : i = l.length) (hpf : p = false → ∀ j (h : j < l.length), j < i → Op.bytesLess l[j].fName n = true) (hp : p = false) : (insK zs (lessN l n) n i p).map setV ++ [[.s n, .g (.slice none 0 0)]] = (zs.take (lessN l n) ++ newV n :: zs.drop (lessN l n)).map setV := by
 have e : lessN l n = l.length := zks n l l.length (Nat.le_refl _) (fun j h _ => hpf hp j h (by omega)) (fun h => absurd h (by omega))
 subst hp
 rw [e, zvm, hi, List.take_of_length_le (by omega), List.drop_eq_nil_of_le (by omega)]
 simp [zpj]
theorem cr_end1 {l : List DtCSet} {zs : List SetV} {n : List UInt8} {i : Nat} {p : Bool} (hzl : zs.length = l.length) (hi : i = l.length) (hp : p = true) : (insK zs (lessN l n) n i p).map setV = (zs.take (lessN l n) ++ newV n :: zs.drop (lessN l n)).map setV := by
 subst hp
 rw [hi, ← hzl, insK_e]
attribute [local simp] DtCatalog.cells DtCSet.cells zbp zd0 and_assoc zcm List.length_append
theorem zw0 (l : List DtCSet) (hl : l.length ≤ 1048576) (h5 : l.length ≤ 5) (n : List UInt8) : XCall Tryz.prog 48 [.agg [.arr 8 0 l.length], .s n] [.own 2 (l.map DtCSet.cells)] (.tup [.agg [.arr 16 0 (creS l n).length], .s (creR l n)]) [.dead] [.own 2 ((creS l n).map DtCSet.cells)] := by
 refine zbx Tryz.func48 (by rfl) (by rfl) (by rw [Tryz.ntmps48]; exact Nat.le_of_ble_eq_true rfl) rfl (by simp) rfl rfl ?_
 rw [Tryz.ntmps48]
 refine zh3 (.own 2 (l.map DtCSet.cells)) (by simp [cvO] <;> assumption) ?_
 refine AW_k [(0, _), (1, _)] ⟨rfl, rfl, trivial⟩ ?_
 refine AW_x rfl rfl fun K hK => ?_
 simp (disch := omega)
 repeat' first | (refine ⟨by omega, ?_⟩) | (intro _)
 refine hK _ ?_; clear hK K
 refine zbm ?_
 refine AW_x rfl rfl fun K hK => ?_
 simp (disch := omega)
 repeat' first | (exfalso; omega) | (refine zdq (zbh (zbz rfl) (zbh zgv zbs)) (l15At { fSets := l } n (by simpa using hl)) rfl ?_; simp (disch := omega)) | (refine zdr (l15At { fSets := l } n (by simpa using hl)) (by rfl) ?_ ?_; (focus (simp (disch := omega) [zbp]; done)); simp (disch := omega)) | (refine ⟨by omega, ?_⟩) | (simp (disch := omega)) | (intro _)
 refine hK _ ?_; clear hK K
 refine zbl rfl (fun hc1 => ?_) (fun hc1 => ?_)
 ·try simp [zba, zbb, zbf, zbd] at hc1
  all_goals
   refine AW_x rfl rfl fun K hK => ?_
   simp (disch := omega)
   repeat' first | (exfalso; omega) | (refine ⟨fun _ => ?_, fun _ => ?_⟩) | (refine ⟨by omega, ?_⟩) | (simp (disch := omega)) | (intro _)
   all_goals (refine hK _ ?_; clear hK K)
   all_goals
    refine zbo (zcc [8] [] (by simp [List.range_succ, zbc, zbj, zbe]) (by simp) ?_)
    simp (disch := omega)
    all_goals first | (have ⟨h1, h2⟩ := zrg hc1; rw [h1, h2]; exact ⟨rfl, rfl, rfl⟩) | (have ⟨h1, h2⟩ := zrh hc1 (by omega); rw [h1, h2]; exact ⟨rfl, rfl, rfl⟩) | (have ⟨h1, h2⟩ := zri hc1 (by omega); rw [h1, h2]; have hkl := congrArg List.length hen; simp at hkl; have hkk := congrArg List.length hks; simp at hkk; exact ⟨by simp; omega, rfl, by simp [DtCSet.cells]⟩) | trace_state
 try simp [zba, zbb, zbf, zbd] at hc1
 refine zbn ?_
 refine zbq ?_
 refine zbm ?_
 refine AW_x rfl rfl fun K hK => ?_
 simp (disch := omega)
 repeat' first | (exfalso; omega) | (refine ⟨fun _ => ?_, fun _ => ?_⟩) | (refine ⟨by omega, ?_⟩) | (simp (disch := omega)) | (intro _)
 all_goals (refine hK _ ?_; clear hK K)
 all_goals
  refine zbl rfl (fun hc2 => ?_) (fun hc2 => ?_)
  ·try simp [zba, zbb, zbf, zbd] at hc2
   all_goals
    refine AW_x rfl rfl fun K hK => ?_
    simp (disch := omega)
    repeat' first | (exfalso; omega) | (refine ⟨fun _ => ?_, fun _ => ?_⟩) | (refine ⟨by omega, ?_⟩) | (simp (disch := omega)) | (intro _)
    all_goals (refine hK _ ?_; clear hK K)
    all_goals
     refine zbo (zcc [8] [] (by simp [List.range_succ, zbc, zbj, zbe]) (by simp) ?_)
     simp (disch := omega)
     all_goals first | (have ⟨h1, h2⟩ := zrg hc1; rw [h1, h2]; exact ⟨rfl, rfl, rfl⟩) | (have ⟨h1, h2⟩ := zrh hc1 (by omega); rw [h1, h2]; exact ⟨rfl, rfl, rfl⟩) | (have ⟨h1, h2⟩ := zri hc1 (by omega); rw [h1, h2]; have hkl := congrArg List.length hen; simp at hkl; have hkk := congrArg List.length hks; simp at hkk; exact ⟨by simp; omega, rfl, by simp [DtCSet.cells]⟩) | trace_state
  try simp [zba, zbb, zbf, zbd] at hc2
  refine zbn ?_
  refine zbq ?_
  refine zd9 (us := l) 8 901 (by simp [zbe, zbc, zbj]) (by simp [zbe, zbc, zbj]) fun zs hz hone => ?_
  have hzl : zs.length = l.length := by rw [← hz]; simp
  refine AW_x rfl rfl fun K hK => ?_
  simp (disch := omega)
  repeat' first | (exfalso; omega) | (refine ⟨fun _ => ?_, fun _ => ?_⟩) | (refine ⟨by omega, ?_⟩) | (simp (disch := omega)) | (intro _)
  all_goals (refine hK _ ?_; clear hK K)
  all_goals
   refine AW_x rfl rfl fun K hK => ?_
   simp (disch := omega)
   repeat' first | (refine ⟨by omega, ?_⟩) | (intro _)
   refine hK _ ?_; clear hK K
   refine zbm ?_
   refine AW_x rfl rfl fun K hK => ?_
   simp (disch := omega)
   repeat' first | (refine ⟨by omega, ?_⟩) | (intro _)
   refine hK _ ?_; clear hK K
   refine zbt ?_
   refine zb5 (fun mM sS => ∃ (i : Nat) (p : Bool), mM = l.length - i ∧ (i ≤ l.length ∧ (p = false → ∀ j (h : j < l.length), j < i → Op.bytesLess l[j].fName n = true) ∧ (p = true → lessN l n < i)) ∧ sS = { env := lkE [(1, .s n), (2, .ptr 48 0), (4, .ptr 80 0), (6, .arr 904 0 (insK zs (lessN l n) n i p).length), (7, (.g (.bool (p)))), (8, (.g (.int .i64 ((i : Nat)))))], ob := lk [(48, .cells [.arr 8 0 l.length]), (80, .cells [.g (.slice none 0 0)]), (8, .win 2 (zs.map setV)), (901, .park (zs.flatMap setP)), (904, .win 2 ((insK zs (lessN l n) n i p).map setV))] }) ?_ ?_
   ·refine ⟨_, LeS.kx [(48, 48), (80, 80), (8, 8), (901, 901), (904, 320)] [(1, .s n), (2, .ptr 48 0), (4, .ptr 80 0), (6, .arr 904 0 (insK zs (lessN l n) n (0) (false)).length), (7, (.g (.bool ((false))))), (8, (.g (.int .i64 (((0) : Nat)))))] [(48, .cells [.arr 8 0 l.length]), (80, .cells [.g (.slice none 0 0)]), (8, .win 2 (zs.map setV)), (901, .park (zs.flatMap setP)), (904, .win 2 ((insK zs (lessN l n) n (0) (false)).map setV))] (by simp [KpR, renV2, renV, zbe, zbv, zbc, zbj, zcm, zd0]; try (simp [insK]; done)) (by simp [KpOX, renO, plO, cvO, renV, pl1, zbc, zbj, zbe, zcm, zd0]; first | (rw [zrj hiz hpt]; simp [zd0]; done) | (rw [(zl6 hzl hiz hpf ‹p = false› hyi hc4.1).1, zfd]; simp [zd0, newV]; done) | (simp [insK]; done) | trace_state) (by rfl) (by simp) (by simp) (by rfl) (by simp [formsX, List.range_succ, zbc, zbj]), _, 0, false, rfl, ?_, rfl⟩
    ·exact ⟨by omega, fun _ j h hj => absurd hj (by omega), fun h => by cases h⟩
   ·rintro mM sS ⟨i, p, rfl, ⟨hi, hpf, hpt⟩, rfl⟩
    have hkl := insK_len zs (lessN l n) n i p
    refine zbm ?_
    refine AW_x rfl rfl fun K hK => ?_
    simp (disch := omega)
    repeat' first | (refine ⟨by omega, ?_⟩) | (simp (disch := omega)) | (intro _)
    refine hK _ ?_; clear hK K
    refine zbl rfl (fun hc3 => ?_) (fun hc3 => ?_)
    ·try simp [zba, zbb, zbf, zbd] at hc3
     all_goals
      have hiz : i < zs.length := by omega
      have hyi := zvj hz i hiz (by omega)
      have hne := zvo hc1 i (by omega)
      have hv1 : (zs[i].2 1).oneCell' = true := hone _ (List.getElem_mem _) 1
      simp only [Value.oneCell'] at hv1
      rw [← hyi] at hne
      refine zbn ?_
      refine zbq ?_
      refine zbm ?_
      refine zbt ?_
      refine zbm ?_
      refine AW_x rfl rfl fun K hK => ?_
      simp (disch := omega) [hv1]
      repeat' first | (exfalso; omega) | (refine ⟨fun _ => ?_, fun _ => ?_⟩) | (refine ⟨by omega, ?_⟩) | (simp (disch := omega) [hv1]) | (intro _)
      all_goals (refine hK _ ?_; clear hK K)
      all_goals
       refine zbl rfl (fun hc4 => ?_) (fun hc4 => ?_)
       ·try simp [zba, zbb, zbf, zbd] at hc4
        all_goals
         refine AW_x rfl rfl fun K hK => ?_
         simp (disch := omega) [hv1]
         repeat' first | (exfalso; omega) | (refine ⟨fun _ => ?_, fun _ => ?_⟩) | (refine ⟨by omega, ?_⟩) | (simp (disch := omega) [hv1]) | (intro _)
         all_goals (refine hK _ ?_; clear hK K)
         all_goals
          refine zcr rfl rfl fun K hK => ?_
          simp (disch := omega) [hv1]
          repeat' first | (refine ⟨by omega, ?_⟩) | (intro _)
          refine hK _ ?_; clear hK K
          refine zbq ?_
          refine zcr rfl rfl fun K hK => ?_
          simp (disch := omega) [hv1]
          repeat' first | (refine ⟨by omega, ?_⟩) | (simp (disch := omega) [hv1]) | (intro _)
          refine hK _ ?_; clear hK K
          refine zbq ?_
          refine zcr rfl rfl fun K hK => ?_
          simp (disch := omega) [hv1]
          repeat' first | (refine ⟨by omega, ?_⟩) | (intro _)
          refine hK _ ?_; clear hK K
          refine ⟨_, LeS.kx [(48, 48), (80, 80), (8, 8), (901, 901), (904, 832)] [(1, .s n), (2, .ptr 48 0), (4, .ptr 80 0), (6, .arr 904 0 (insK zs (lessN l n) n (i + 1) (true)).length), (7, (.g (.bool ((true))))), (8, (.g (.int .i64 (((i + 1) : Nat)))))] [(48, .cells [.arr 8 0 l.length]), (80, .cells [.g (.slice none 0 0)]), (8, .win 2 (zs.map setV)), (901, .park (zs.flatMap setP)), (904, .win 2 ((insK zs (lessN l n) n (i + 1) (true)).map setV))] (by simp [KpR, renV2, renV, zbe, zbv, zbc, zbj, zcm, zd0]; first | (rw [zrj hiz hpt]; simp; done) | (rw [(zl6 hzl hiz hpf ‹p = false› hyi hc4.1).1]; simp; done) | trace_state) (by simp [KpOX, renO, plO, cvO, renV, pl1, zbc, zbj, zbe, zcm, zd0]; first | (rw [zrj hiz hpt]; simp [zd0]; done) | (rw [(zl6 hzl hiz hpf ‹p = false› hyi hc4.1).1, zfd]; simp [zd0, newV]; done) | (simp [insK]; done) | trace_state) (by rfl) (by simp) (by simp) (by rfl) (by simp [formsX, List.range_succ, zbc, zbj]), _, ?_, i + 1, true, rfl, ?_, rfl⟩
          ·omega
          ·first | exact ⟨by omega, fun h => (by cases h), fun _ => by have := (zl6 hzl hiz hpf ‹p = false› hyi hc4.1).2; omega⟩ | exact ⟨by omega, fun h j hj hji => if e : j < i then hpf h j hj e else (by have e2 : j = i := (by omega); subst e2; rw [← hyi]; grind), fun h => by have := hpt h; omega⟩ | trace_state
       try simp [zba, zbb, zbf, zbd] at hc4
       refine zbn ?_
       refine zbq ?_
       refine zcr rfl rfl fun K hK => ?_
       simp (disch := omega) [hv1]
       repeat' first | (exfalso; omega) | (refine ⟨fun _ => ?_, fun _ => ?_⟩) | (refine ⟨by omega, ?_⟩) | (simp (disch := omega) [hv1]) | (intro _)
       all_goals (refine hK _ ?_; clear hK K)
       all_goals
        refine zbq ?_
        refine zcr rfl rfl fun K hK => ?_
        simp (disch := omega) [hv1]
        repeat' first | (refine ⟨by omega, ?_⟩) | (intro _)
        refine hK _ ?_; clear hK K
        refine ⟨_, LeS.kx [(48, 48), (80, 80), (8, 8), (901, 901), (904, 832)] [(1, .s n), (2, .ptr 48 0), (4, .ptr 80 0), (6, .arr 904 0 (insK zs (lessN l n) n (i + 1) (p)).length), (7, (.g (.bool ((p))))), (8, (.g (.int .i64 (((i + 1) : Nat)))))] [(48, .cells [.arr 8 0 l.length]), (80, .cells [.g (.slice none 0 0)]), (8, .win 2 (zs.map setV)), (901, .park (zs.flatMap setP)), (904, .win 2 ((insK zs (lessN l n) n (i + 1) (p)).map setV))] (by simp [KpR, renV2, renV, zbe, zbv, zbc, zbj, zcm, zd0]; first | (rw [zrj hiz hpt]; simp; done) | (rw [(zl6 hzl hiz hpf ‹p = false› hyi hc4.1).1]; simp; done) | trace_state) (by simp [KpOX, renO, plO, cvO, renV, pl1, zbc, zbj, zbe, zcm, zd0]; first | (rw [zrj hiz hpt]; simp [zd0]; done) | (rw [(zl6 hzl hiz hpf ‹p = false› hyi hc4.1).1, zfd]; simp [zd0, newV]; done) | (simp [insK]; done) | trace_state) (by rfl) (by simp) (by simp) (by rfl) (by simp [formsX, List.range_succ, zbc, zbj]), _, ?_, i + 1, p, rfl, ?_, rfl⟩
        ·omega
        ·first | exact ⟨by omega, fun h => (by cases h), fun _ => by have := (zl6 hzl hiz hpf ‹p = false› hyi hc4.1).2; omega⟩ | exact ⟨by omega, fun h j hj hji => if e : j < i then hpf h j hj e else (by have e2 : j = i := (by omega); subst e2; rw [← hyi]; grind), fun h => by have := hpt h; omega⟩ | trace_state
    try simp [zba, zbb, zbf, zbd] at hc3
    refine zb7 ?_
    refine zbq ?_
    refine zbm ?_
    refine AW_x rfl rfl fun K hK => ?_
    simp (disch := omega)
    repeat' first | (exfalso; omega) | (refine ⟨fun _ => ?_, fun _ => ?_⟩) | (refine ⟨by omega, ?_⟩) | (simp (disch := omega)) | (intro _)
    all_goals (refine hK _ ?_; clear hK K)
    all_goals
     refine zbl rfl (fun hc5 => ?_) (fun hc5 => ?_)
     ·try simp [zba, zbb, zbf, zbd] at hc5
      all_goals
       refine zcr rfl rfl fun K hK => ?_
       simp (disch := omega)
       repeat' first | (exfalso; omega) | (refine ⟨fun _ => ?_, fun _ => ?_⟩) | (refine ⟨by omega, ?_⟩) | (simp (disch := omega)) | (intro _)
       all_goals (refine hK _ ?_; clear hK K)
       all_goals
        refine zbq ?_
        have hil : i = l.length := by omega
        obtain ⟨ks, hks⟩ : ∃ ks, ks = zs.take (lessN l n) ++ newV n :: zs.drop (lessN l n) := ⟨_, rfl⟩
        have hen := cr_end0 hzl hil hpf hc5
        rw [← hks] at hen
        refine zfk (LeS.parkN 901 (s := 3) (ps1 := (zs.take (lessN l n)).flatMap setP) (ps2 := (zs.drop (lessN l n)).flatMap setP) (by simp [zbe, zbc, zbj]; rw [← List.flatMap_append, List.take_append_drop])) ?_
        refine zfk (zhn (ks := ks) (zs := ks) 944 901 (by simp [zbe, zbc, zbj, hen]) (by simp [zbe, zbc, zbj]; rw [hks]; simp [zpk]) (List.Sublist.refl _)) ?_
        have hsn := ins_c hz n (lessN l n)
        rw [hks, hsn]
        refine AW_x rfl rfl fun K hK => ?_
        simp (disch := omega)
        repeat' first | (refine ⟨by omega, ?_⟩) | (simp (disch := omega)) | (intro _)
        refine hK _ ?_; clear hK K
        refine AW_x rfl rfl fun K hK => ?_
        simp (disch := omega)
        repeat' first | (refine ⟨by omega, ?_⟩) | (simp (disch := omega)) | (intro _)
        refine hK _ ?_; clear hK K
        refine zbo (zcc [944] [] (by simp [List.range_succ, zbc, zbj, zbe]) (by simp) ?_)
        simp (disch := omega)
        all_goals first | (have ⟨h1, h2⟩ := zrg hc1; rw [h1, h2]; exact ⟨rfl, rfl, rfl⟩) | (have ⟨h1, h2⟩ := zrh hc1 (by omega); rw [h1, h2]; exact ⟨rfl, rfl, rfl⟩) | (have ⟨h1, h2⟩ := zri hc1 (by omega); rw [h1, h2]; have hkl := congrArg List.length hen; simp at hkl; have hkk := congrArg List.length hks; simp at hkk; exact ⟨by simp; omega, rfl, by simp [DtCSet.cells]⟩) | trace_state
     try simp [zba, zbb, zbf, zbd] at hc5
     refine zbn ?_
     refine zbq ?_
     have hil : i = l.length := by omega
     obtain ⟨ks, hks⟩ : ∃ ks, ks = zs.take (lessN l n) ++ newV n :: zs.drop (lessN l n) := ⟨_, rfl⟩
     have hen := @cr_end1 l zs n i p hzl hil hc5
     rw [← hks] at hen
     refine zfk (LeS.parkN 901 (s := 3) (ps1 := (zs.take (lessN l n)).flatMap setP) (ps2 := (zs.drop (lessN l n)).flatMap setP) (by simp [zbe, zbc, zbj]; rw [← List.flatMap_append, List.take_append_drop])) ?_
     refine zfk (zhn (ks := ks) (zs := ks) 904 901 (by simp [zbe, zbc, zbj, hen]) (by simp [zbe, zbc, zbj]; rw [hks]; simp [zpk]) (List.Sublist.refl _)) ?_
     have hsn := ins_c hz n (lessN l n)
     rw [hks, hsn]
     refine AW_x rfl rfl fun K hK => ?_
     simp (disch := omega)
     repeat' first | (exfalso; omega) | (refine ⟨fun _ => ?_, fun _ => ?_⟩) | (refine ⟨by omega, ?_⟩) | (simp (disch := omega)) | (intro _)
     all_goals (refine hK _ ?_; clear hK K)
     all_goals
      refine AW_x rfl rfl fun K hK => ?_
      simp (disch := omega)
      repeat' first | (refine ⟨by omega, ?_⟩) | (simp (disch := omega)) | (intro _)
      refine hK _ ?_; clear hK K
      refine zbo (zcc [904] [] (by simp [List.range_succ, zbc, zbj, zbe]) (by simp) ?_)
      simp (disch := omega)
      all_goals first | (have ⟨h1, h2⟩ := zrg hc1; rw [h1, h2]; exact ⟨rfl, rfl, rfl⟩) | (have ⟨h1, h2⟩ := zrh hc1 (by omega); rw [h1, h2]; exact ⟨rfl, rfl, rfl⟩) | (have ⟨h1, h2⟩ := zri hc1 (by omega); rw [h1, h2]; have hkl := congrArg List.length hen; simp at hkl; have hkk := congrArg List.length hks; simp at hkk; exact ⟨by simp; omega, rfl, by simp [DtCSet.cells]⟩) | trace_state
end Go.Proofs.YtmheohnbkaoipaaGreat.Vs

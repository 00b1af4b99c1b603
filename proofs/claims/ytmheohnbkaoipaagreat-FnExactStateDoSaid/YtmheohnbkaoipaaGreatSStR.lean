import Derived.Test.YtmheohnbkaoipaaGreatSStP
open Go Go.Proofs Go.Proofs.YtmheohnbkaoipaaGreat.Vs
namespace Go.Proofs.YtmheohnbkaoipaaGreat.Vs
set_option linter.all false
set_option linter.unusedSimpArgs false
set_option linter.unusedVariables false
set_option maxRecDepth 100000
set_option maxHeartbeats 2000000
theorem AW_wn {P : Program} {nt : Nat} {fs : List Nat} {Q : AExit → St → Prop} {st : St} {c : Code} (n : Nat) {sz : Nat} {xs : List (List AV)} (hs : scR xs = true) (hob : st.ob n = some (.own sz xs)) (h : AW P nt fs c Q { st with ob := upd st.ob n (some (.win sz xs)) }) : AW P nt fs c Q st := by
 refine zfk (LeS.cv fun k => ?_) h
 by_cases e : k = n
 ·subst e
  exact .inr ⟨_, .win sz xs, hob, by simp [upd], ⟨rfl, rfl, hs⟩⟩
 ·exact .inl (by have : (k == n) = false := by simpa using e
                 simp [upd, this])
theorem saidI_bd (s : DtState) (m : DtCmd) : saidI s m < (s.fSaid.length : Int) := by
 by_cases h : 0 ≤ saidI s m
 ·have := zc8 h; omega
 ·omega
theorem idxSaid (s : DtState) (m : DtCmd) (hl : s.fSaid.length ≤ 1048576) : GCall Tryz.prog 29 [.sl 3 (s.fSaid.map DtSaid.cells), .fn 30 [] [.ptr 0 0]] [DtCmd.cells m] [] (.g (.int .i64 (saidI s m))) [] := zpu rfl _ hl (fun x => stateDo1 x m)
theorem zte (l : List DtSaid) (x : DtSaid) (z : Int) (h0 : 0 ≤ z) (hk : z ≤ (l.length : Int)) (hl : l.length ≤ 1048576) : XCall Tryz.prog 32 [.arr 8 0 l.length, (.g (.int .i64 (z))), .arr 9 0 1] [.own 3 (l.map DtSaid.cells), .own 3 [DtSaid.cells x]] (.arr 16 0 (l.length + 1)) [.dead, .dead] [.own 3 ((l.take z.toNat ++ x :: l.drop z.toNat).map DtSaid.cells)] := by
 obtain ⟨k, rfl⟩ := Int.eq_ofNat_of_zero_le h0
 have h := zwr (l.map DtSaid.cells) (zc5 l) (DtSaid.cells x) (by simp [DtSaid.cells]) k (by simp; omega) (by simpa using hl)
 simpa using h
theorem sd_f {s : DtState} {m : DtCmd} (h : ¬ StateP s) : (stC s m).fCat.fSets = [] ∧ (stC s m).fSaid = [] ∧ stR s m = [] ∧ (stC s m).fCat.fSets = [] ∧ (stC s m).fSaid = [] := by
 have ⟨h1, h2⟩ := st_f h (m := m); rw [h1, h2]; exact ⟨rfl, rfl, rfl, rfl, rfl⟩
abbrev StSame (s : DtState) (m : DtCmd) (t : List UInt8) : Prop := (stC s m).fCat.fSets.length = s.fCat.fSets.length ∧ (stC s m).fSaid.length = s.fSaid.length ∧ stR s m = t ∧ List.map DtCSet.cells (stC s m).fCat.fSets = List.map DtCSet.cells s.fCat.fSets ∧ List.map DtSaid.cells (stC s m).fSaid = List.map DtSaid.cells s.fSaid
theorem zco {s : DtState} {m : DtCmd} {t : List UInt8} (h : stC s m = s ∧ stR s m = t) : StSame s m t := by
 unfold StSame; rw [h.1, h.2]; exact ⟨rfl, rfl, rfl, rfl, rfl⟩
attribute [local simp] DtState.cells DtCatalog.cells DtSaid.cells DtCmd.cells zbp and_assoc zc5 List.range_succ newS
theorem zme (s : DtState) (m : DtCmd) (hs : DtState.sz s ≤ 1048576) (hm : DtCmd.sz m ≤ 1048576) : XCall Tryz.prog 9 [.agg (DtState.cells s), .agg (DtCmd.cells m)] [] (.tup [.agg [.arr 16 0 (stC s m).fCat.fSets.length, .arr 17 0 (stC s m).fSaid.length], .s (stR s m)]) [] [.own 2 ((stC s m).fCat.fSets.map DtCSet.cells), .own 3 ((stC s m).fSaid.map DtSaid.cells)] := by
 have ⟨hz, hl⟩ := zjw s hs
 refine zbx Tryz.func9 (by rfl) (by rfl) (by rw [Tryz.ntmps9]; exact Nat.le_of_ble_eq_true rfl) rfl (by simp) rfl rfl ?_
 rw [Tryz.ntmps9]
 refine zf1   ?_
 refine AW_k [(0, _), (1, _)] ⟨rfl, rfl, trivial⟩ ?_
 refine AW_x rfl rfl fun K hK => ?_
 simp (disch := omega)
 repeat' first | (refine ⟨by omega, ?_⟩) | (intro _)
 refine hK _ ?_; clear hK K
 refine AW_x rfl rfl fun K hK => ?_
 simp (disch := omega)
 repeat' first | (exfalso; omega) | (refine zdm [] true [] (zw1 s hs) ?_ ?_ ?_; (focus (simp [List.range_succ, nmC]; done)); (focus (simp (disch := omega) [zbp]; done)); simp (disch := omega)) | (refine ⟨by omega, ?_⟩) | (simp (disch := omega)) | (intro _)
 refine hK _ ?_; clear hK K
 refine zbm ?_
 refine AW_x rfl rfl fun K hK => ?_
 simp (disch := omega)
 repeat' first | (exfalso; omega) | (refine zdq (zbh (zbz rfl) zbs) (zl2 s (by omega)) rfl ?_; simp (disch := omega)) | (refine zdr (zl2 s (by omega)) (by rfl) ?_ ?_; (focus (simp (disch := omega) [zbp]; done)); simp (disch := omega)) | (refine ⟨by omega, ?_⟩) | (simp (disch := omega)) | (intro _)
 refine hK _ ?_; clear hK K
 refine zbl rfl (fun hc1 => ?_) (fun hc1 => ?_)
 ·try simp [zba, zbb, zbf, zbd] at hc1
  all_goals
   refine AW_x rfl rfl fun K hK => ?_
   simp (disch := omega)
   repeat' first | (exfalso; omega) | (refine ⟨fun _ => ?_, fun _ => ?_⟩) | (refine ⟨by omega, ?_⟩) | (simp (disch := omega)) | (intro _)
   all_goals (refine hK _ ?_; clear hK K)
   all_goals
    refine zbo (zcc [1000, 1001] [(1000, 2), (1001, 3)] (by simp [List.range_succ, zbc, zbj, zbe]) (by simp) ?_)
    simp (disch := omega)
    all_goals first | exact sd_f hc1 | exact zco (st_m hc1 (by simp_all [zba, zbb])) | exact zco (ztd hc1 ((zba _).mp (by assumption)) hc2 (by assumption) (by assumption) (by assumption)) | exact zco (zl9 hc1 ((zba _).mp (by assumption)) hc2 (by assumption) (by assumption) (by assumption)) | (have ⟨h1, h2⟩ := zma hc1 ((zba _).mp (by assumption)) hc2 (by assumption) (by assumption) (by omega); rw [h1, h2]; exact ⟨rfl, by simp, rfl, rfl, by simp [newS, DtSaid.cells]⟩) | (have ⟨h1, h2⟩ := zmb hc1 ((zba _).mp (by assumption)) hc2 (by assumption) (by assumption); rw [h1, h2]; exact ⟨rfl, by simp; omega, rfl, rfl, by simp [newS, DtSaid.cells]⟩) | (have ⟨h1, h2⟩ := zmc hc1 ((zba _).mp (by assumption)) hc2 (by omega); rw [h1, h2]; exact ⟨rfl, by simp, rfl, rfl, by simp [newS, DtSaid.cells]⟩) | trace_state
 ·try simp [zba, zbb, zbf, zbd] at hc1
  all_goals
   refine zbn ?_
   refine zbq ?_
   refine zbm ?_
   refine AW_x rfl rfl fun K hK => ?_
   simp (disch := omega)
   repeat' first | (exfalso; omega) | (refine zdq (zbh (zbz rfl) zbs) (zh8 m (by omega)) rfl ?_; simp (disch := omega)) | (refine zdr (zh8 m (by omega)) (by rfl) ?_ ?_; (focus (simp (disch := omega) [zbp]; done)); simp (disch := omega)) | (refine ⟨fun _ => ?_, fun _ => ?_⟩) | (refine ⟨by omega, ?_⟩) | (simp (disch := omega)) | (intro _)
   all_goals (refine hK _ ?_; clear hK K)
   all_goals
    refine zbl rfl (fun hc2 => ?_) (fun hc2 => ?_)
    ·try simp [zba, zbb, zbf, zbd] at hc2
     all_goals
      refine AW_x rfl rfl fun K hK => ?_
      simp (disch := omega)
      repeat' first | (exfalso; omega) | (refine ⟨fun _ => ?_, fun _ => ?_⟩) | (refine ⟨by omega, ?_⟩) | (simp (disch := omega)) | (intro _)
      all_goals (refine hK _ ?_; clear hK K)
      all_goals
       refine zbo (zcc [224, 225] [] (by simp [List.range_succ, zbc, zbj, zbe]) (by simp) ?_)
       simp (disch := omega)
       all_goals first | exact sd_f hc1 | exact zco (st_m hc1 (by simp_all [zba, zbb])) | exact zco (ztd hc1 ((zba _).mp (by assumption)) hc2 (by assumption) (by assumption) (by assumption)) | exact zco (zl9 hc1 ((zba _).mp (by assumption)) hc2 (by assumption) (by assumption) (by assumption)) | (have ⟨h1, h2⟩ := zma hc1 ((zba _).mp (by assumption)) hc2 (by assumption) (by assumption) (by omega); rw [h1, h2]; exact ⟨rfl, by simp, rfl, rfl, by simp [newS, DtSaid.cells]⟩) | (have ⟨h1, h2⟩ := zmb hc1 ((zba _).mp (by assumption)) hc2 (by assumption) (by assumption); rw [h1, h2]; exact ⟨rfl, by simp; omega, rfl, rfl, by simp [newS, DtSaid.cells]⟩) | (have ⟨h1, h2⟩ := zmc hc1 ((zba _).mp (by assumption)) hc2 (by omega); rw [h1, h2]; exact ⟨rfl, by simp, rfl, rfl, by simp [newS, DtSaid.cells]⟩) | trace_state
    ·try simp [zba, zbb, zbf, zbd] at hc2
     all_goals
      refine zbn ?_
      refine zbq ?_
      refine AW_x rfl rfl fun K hK => ?_
      simp (disch := omega)
      repeat' first | (exfalso; omega) | (refine XKd_r1 64 (.inl rfl) (zcb (DtCmd.cells m) rfl) (zbh zdd (zbh zsl zbs)) (idxSaid s m hl) rfl ?_; simp (disch := omega)) | (refine ⟨fun _ => ?_, fun _ => ?_⟩) | (refine ⟨by omega, ?_⟩) | (simp (disch := omega)) | (intro _)
      all_goals (refine hK _ ?_; clear hK K)
      all_goals
       have hbd := saidI_bd s m
       refine AW_d rfl mix (by kernel_rfl) (by kernel_rfl) fun K hK => ?_
       simp (disch := omega)
       repeat' first | (exfalso; omega) | (refine ⟨fun _ => ?_, fun _ => ?_⟩) | (refine ⟨by omega, ?_⟩) | (simp (disch := omega)) | (intro _)
       all_goals (refine hK _ _ (by kernel_rfl) ?_; clear hK K)
       all_goals
        refine zbm ?_
        refine AW_d rfl mix (by kernel_rfl) (by kernel_rfl) fun K hK => ?_
        simp (disch := omega)
        repeat' first | (exfalso; omega) | (refine ⟨fun _ => ?_, fun _ => ?_⟩) | (refine ⟨by omega, ?_⟩) | (simp (disch := omega)) | (intro _)
        all_goals (refine hK _ _ (by kernel_rfl) ?_; clear hK K)
        all_goals
         refine zbl rfl (fun hc3 => ?_) (fun hc3 => ?_)
         ·try simp [zba, zbb, zbf, zbd] at hc3
          all_goals
           refine AW_d rfl mix (by kernel_rfl) (by kernel_rfl) fun K hK => ?_
           simp (disch := omega)
           repeat' first | (exfalso; omega) | (refine ⟨fun _ => ?_, fun _ => ?_⟩) | (refine ⟨by omega, ?_⟩) | (simp (disch := omega)) | (intro _)
           all_goals (refine hK _ _ (by kernel_rfl) ?_; clear hK K)
           all_goals
            refine zbo (zcc [224, 225] [] (by simp [List.range_succ, zbc, zbj, zbe]) (by simp) ?_)
            simp (disch := omega)
            all_goals first | exact sd_f hc1 | exact zco (st_m hc1 (by simp_all [zba, zbb])) | exact zco (ztd hc1 ((zba _).mp (by assumption)) hc2 (by assumption) (by assumption) (by assumption)) | exact zco (zl9 hc1 ((zba _).mp (by assumption)) hc2 (by assumption) (by assumption) (by assumption)) | (have ⟨h1, h2⟩ := zma hc1 ((zba _).mp (by assumption)) hc2 (by assumption) (by assumption) (by omega); rw [h1, h2]; exact ⟨rfl, by simp, rfl, rfl, by simp [newS, DtSaid.cells]⟩) | (have ⟨h1, h2⟩ := zmb hc1 ((zba _).mp (by assumption)) hc2 (by assumption) (by assumption); rw [h1, h2]; exact ⟨rfl, by simp; omega, rfl, rfl, by simp [newS, DtSaid.cells]⟩) | (have ⟨h1, h2⟩ := zmc hc1 ((zba _).mp (by assumption)) hc2 (by omega); rw [h1, h2]; exact ⟨rfl, by simp, rfl, rfl, by simp [newS, DtSaid.cells]⟩) | trace_state
         ·try simp [zba, zbb, zbf, zbd] at hc3
          all_goals
           refine zbn ?_
           refine zbq ?_
           refine zbm ?_
           refine AW_d rfl mix (by kernel_rfl) (by kernel_rfl) fun K hK => ?_
           simp (disch := omega)
           repeat' first | (exfalso; omega) | (refine ⟨fun _ => ?_, fun _ => ?_⟩) | (refine ⟨by omega, ?_⟩) | (simp (disch := omega)) | (intro _)
           all_goals (refine hK _ _ (by kernel_rfl) ?_; clear hK K)
           all_goals
            refine zbl rfl (fun hc4 => ?_) (fun hc4 => ?_)
            ·try simp [zba, zbb, zbf, zbd] at hc4
             all_goals
              refine AW_x rfl rfl fun K hK => ?_
              simp (disch := omega)
              repeat' first | (exfalso; omega) | (refine ⟨fun _ => ?_, fun _ => ?_⟩) | (refine ⟨by omega, ?_⟩) | (simp (disch := omega)) | (intro _)
              all_goals (refine hK _ ?_; clear hK K)
              all_goals
               refine zbo (zcc [224, 225] [] (by simp [List.range_succ, zbc, zbj, zbe]) (by simp) ?_)
               simp (disch := omega)
               all_goals first | exact sd_f hc1 | exact zco (st_m hc1 (by simp_all [zba, zbb])) | exact zco (ztd hc1 ((zba _).mp (by assumption)) hc2 (by assumption) (by assumption) (by assumption)) | exact zco (zl9 hc1 ((zba _).mp (by assumption)) hc2 (by assumption) (by assumption) (by assumption)) | (have ⟨h1, h2⟩ := zma hc1 ((zba _).mp (by assumption)) hc2 (by assumption) (by assumption) (by omega); rw [h1, h2]; exact ⟨rfl, by simp, rfl, rfl, by simp [newS, DtSaid.cells]⟩) | (have ⟨h1, h2⟩ := zmb hc1 ((zba _).mp (by assumption)) hc2 (by assumption) (by assumption); rw [h1, h2]; exact ⟨rfl, by simp; omega, rfl, rfl, by simp [newS, DtSaid.cells]⟩) | (have ⟨h1, h2⟩ := zmc hc1 ((zba _).mp (by assumption)) hc2 (by omega); rw [h1, h2]; exact ⟨rfl, by simp, rfl, rfl, by simp [newS, DtSaid.cells]⟩) | trace_state
            ·try simp [zba, zbb, zbf, zbd] at hc4
             all_goals
              refine zbn ?_
              refine zbq ?_
              refine AW_x rfl rfl fun K hK => ?_
              simp (disch := omega)
              repeat' first | (exfalso; omega) | (refine zdm [] true [] (implCatC s.fCat m hz hm) ?_ ?_ ?_; (focus (simp [List.range_succ, nmC]; done)); (focus (simp (disch := omega) [zbp]; done)); simp (disch := omega)) | (refine ⟨fun _ => ?_, fun _ => ?_⟩) | (refine ⟨by omega, ?_⟩) | (simp (disch := omega)) | (intro _)
              all_goals (refine hK _ ?_; clear hK K)
              all_goals
               refine AW_x rfl rfl fun K hK => ?_
               simp (disch := omega)
               repeat' first | (refine ⟨by omega, ?_⟩) | (simp (disch := omega)) | (intro _)
               refine hK _ ?_; clear hK K
               refine AW_x rfl rfl fun K hK => ?_
               simp (disch := omega)
               repeat' first | (refine ⟨by omega, ?_⟩) | (simp (disch := omega)) | (intro _)
               refine hK _ ?_; clear hK K
               refine zbm ?_
               refine zbt ?_
               refine AW_x rfl rfl fun K hK => ?_
               simp (disch := omega)
               repeat' first | (refine ⟨by omega, ?_⟩) | (intro _)
               refine hK _ ?_; clear hK K
               refine zbl rfl (fun hc5 => ?_) (fun hc5 => ?_)
               ·try simp [zba, zbb, zbf, zbd] at hc5
                all_goals
                 refine zcr rfl rfl fun K hK => ?_
                 simp (disch := omega)
                 repeat' first | (exfalso; omega) | (refine ⟨fun _ => ?_, fun _ => ?_⟩) | (refine ⟨by omega, ?_⟩) | (simp (disch := omega)) | (intro _)
                 all_goals (refine hK _ ?_; clear hK K)
                 all_goals
                  refine zbq ?_
                  refine AW_x rfl rfl fun K hK => ?_
                  simp (disch := omega)
                  repeat' first | (refine ⟨by omega, ?_⟩) | (simp (disch := omega)) | (intro _)
                  refine hK _ ?_; clear hK K
                  refine zbo (zcc [1296, 225] [] (by simp [List.range_succ, zbc, zbj, zbe]) (by simp) ?_)
                  simp (disch := omega)
                  all_goals first | exact sd_f hc1 | exact zco (st_m hc1 (by simp_all [zba, zbb])) | exact zco (ztd hc1 ((zba _).mp (by assumption)) hc2 (by assumption) (by assumption) (by assumption)) | exact zco (zl9 hc1 ((zba _).mp (by assumption)) hc2 (by assumption) (by assumption) (by assumption)) | (have ⟨h1, h2⟩ := zma hc1 ((zba _).mp (by assumption)) hc2 (by assumption) (by assumption) (by omega); rw [h1, h2]; exact ⟨rfl, by simp, rfl, rfl, by simp [newS, DtSaid.cells]⟩) | (have ⟨h1, h2⟩ := zmb hc1 ((zba _).mp (by assumption)) hc2 (by assumption) (by assumption); rw [h1, h2]; exact ⟨rfl, by simp; omega, rfl, rfl, by simp [newS, DtSaid.cells]⟩) | (have ⟨h1, h2⟩ := zmc hc1 ((zba _).mp (by assumption)) hc2 (by omega); rw [h1, h2]; exact ⟨rfl, by simp, rfl, rfl, by simp [newS, DtSaid.cells]⟩) | trace_state
               ·try simp [zba, zbb, zbf, zbd] at hc5
                all_goals
                 refine AW_x rfl rfl fun K hK => ?_
                 simp (disch := omega)
                 repeat' first | (exfalso; omega) | (refine ⟨fun _ => ?_, fun _ => ?_⟩) | (refine ⟨by omega, ?_⟩) | (simp (disch := omega)) | (intro _)
                 all_goals (refine hK _ ?_; clear hK K)
                 all_goals
                  refine zbl rfl (fun hc6 => ?_) (fun hc6 => ?_)
                  ·try simp [zba, zbb, zbf, zbd] at hc6
                   all_goals
                    refine zcr rfl rfl fun K hK => ?_
                    simp (disch := omega)
                    repeat' first | (exfalso; omega) | (refine zdm [225, 1792] true [] (zte s.fSaid (newS m (catR s.fCat m)) (saidI s m) (by omega) (by omega) hl) ?_ ?_ ?_; (focus (simp [List.range_succ, nmC]; done)); (focus (simp (disch := omega) [zbp]; done)); simp (disch := omega)) | (refine ⟨fun _ => ?_, fun _ => ?_⟩) | (refine ⟨by omega, ?_⟩) | (simp (disch := omega)) | (intro _)
                    all_goals (refine hK _ ?_; clear hK K)
                    all_goals
                     refine zbq ?_
                     refine AW_x rfl rfl fun K hK => ?_
                     simp (disch := omega)
                     repeat' first | (refine ⟨by omega, ?_⟩) | (simp (disch := omega)) | (intro _)
                     refine hK _ ?_; clear hK K
                     refine zbo (zcc [1296, 1808] [] (by simp [List.range_succ, zbc, zbj, zbe]) (by simp) ?_)
                     simp (disch := omega)
                     all_goals first | exact sd_f hc1 | exact zco (st_m hc1 (by simp_all [zba, zbb])) | exact zco (ztd hc1 ((zba _).mp (by assumption)) hc2 (by assumption) (by assumption) (by assumption)) | exact zco (zl9 hc1 ((zba _).mp (by assumption)) hc2 (by assumption) (by assumption) (by assumption)) | (have ⟨h1, h2⟩ := zma hc1 ((zba _).mp (by assumption)) hc2 (by assumption) (by assumption) (by omega); rw [h1, h2]; exact ⟨rfl, by simp, rfl, rfl, by simp [newS, DtSaid.cells]⟩) | (have ⟨h1, h2⟩ := zmb hc1 ((zba _).mp (by assumption)) hc2 (by assumption) (by assumption); rw [h1, h2]; exact ⟨rfl, by simp; omega, rfl, rfl, by simp [newS, DtSaid.cells]⟩) | (have ⟨h1, h2⟩ := zmc hc1 ((zba _).mp (by assumption)) hc2 (by omega); rw [h1, h2]; exact ⟨rfl, by simp, rfl, rfl, by simp [newS, DtSaid.cells]⟩) | trace_state
                  ·try simp [zba, zbb, zbf, zbd] at hc6
                   all_goals
                    refine AW_wn (sz := 3) 225 (zc5 s.fSaid) (by simp [zbe, zbc, zbj]) ?_
                    refine zcr rfl rfl fun K hK => ?_
                    simp (disch := omega)
                    repeat' first | (exfalso; omega) | (refine ⟨fun _ => ?_, fun _ => ?_⟩) | (refine ⟨by omega, ?_⟩) | (simp (disch := omega)) | (intro _)
                    all_goals (refine hK _ ?_; clear hK K)
                    all_goals
                     refine zbq ?_
                     refine AW_x rfl rfl fun K hK => ?_
                     simp (disch := omega)
                     repeat' first | (refine ⟨by omega, ?_⟩) | (simp (disch := omega)) | (intro _)
                     refine hK _ ?_; clear hK K
                     refine zbo (zcc [1296, 1536] [] (by simp [List.range_succ, zbc, zbj, zbe]) (by simp) ?_)
                     simp (disch := omega)
                     all_goals first | exact sd_f hc1 | exact zco (st_m hc1 (by simp_all [zba, zbb])) | exact zco (ztd hc1 ((zba _).mp (by assumption)) hc2 (by assumption) (by assumption) (by assumption)) | exact zco (zl9 hc1 ((zba _).mp (by assumption)) hc2 (by assumption) (by assumption) (by assumption)) | (have ⟨h1, h2⟩ := zma hc1 ((zba _).mp (by assumption)) hc2 (by assumption) (by assumption) (by omega); rw [h1, h2]; exact ⟨rfl, by simp, rfl, rfl, by simp [newS, DtSaid.cells]⟩) | (have ⟨h1, h2⟩ := zmb hc1 ((zba _).mp (by assumption)) hc2 (by assumption) (by assumption); rw [h1, h2]; exact ⟨rfl, by simp; omega, rfl, rfl, by simp [newS, DtSaid.cells]⟩) | (have ⟨h1, h2⟩ := zmc hc1 ((zba _).mp (by assumption)) hc2 (by omega); rw [h1, h2]; exact ⟨rfl, by simp, rfl, rfl, by simp [newS, DtSaid.cells]⟩) | trace_state
end Go.Proofs.YtmheohnbkaoipaaGreat.Vs

import Derived.Test.YtmheohnbkaoipaaSFjV
import Derived.Test.YtmheohnbkaoipaaSFiQ
open Go Go.Proofs Go.Proofs.Ytmheohnbkaoipaa.Vs
namespace Go.Proofs.Ytmheohnbkaoipaa.Vs
set_option linter.all false
set_option linter.unusedSimpArgs false
set_option linter.unusedVariables false
set_option maxRecDepth 100000
set_option maxHeartbeats 2000000
def optL (o : Option (List Int)) : List Int := o.getD []
abbrev FitX (l : List DtCall) (p : List Int) (r : Option (List Int)) : Prop := XCall Try.prog 84 [.sl 11 (l.map DtCall.cells), .agg (DtState.cells (stP l p)), .arr 8 0 p.length] [.own 1 (p.map cI)] (.tup [.arr 16 0 (optL r).length, (.g (.bool (r.isSome)))]) [.dead] [.own 1 ((optL r).map cI)]
theorem zl9 {l : List DtCall} {p : List Int} {V : Nat → Option (List Int)} (h : p.length = l.length) : resF l p V = some p := by unfold resF; rw [if_pos h]
theorem zjn {l : List DtCall} {p : List Int} {V : Nat → Option (List Int)} (h : ¬ p.length = l.length) {k : Nat} (hk : k < l.length) {r : List Int} (hr : fitC l p V k = some r) (hb : ∀ j, j < k → fitC l p V j = none) : resF l p V = some r := by unfold resF; rw [if_neg h, znj hk hr hb]
theorem zma {l : List DtCall} {p : List Int} {V : Nat → Option (List Int)} (h : ¬ p.length = l.length) (hb : ∀ j, j < l.length → fitC l p V j = none) : resF l p V = none := by unfold resF; rw [if_neg h, zl8 hb]
theorem zdr (l : List Int) : scR (l.map cI) = true := zdv cI (fun _ => rfl) l
theorem zv5 (p : List Int) : List.flatMap (fun y => List.flatMap names1 y) (List.map cI p) = [] := by
 induction p with
 | nil => rfl
 | cons x p ih => rw [List.map_cons, List.flatMap_cons, ih]; rfl
attribute [local simp] zv5 DtState.cells DtCatalog.cells DtCall.cells DtCmd.cells zbp and_assoc cI List.range_succ
attribute [-simp] aAppC aAppZ
theorem fitStep (l : List DtCall) (hs : szS DtCall.sz l ≤ 1048576) (p : List Int) (hpr : ∀ j ∈ p, 0 ≤ j ∧ j < (l.length : Int)) (hpl : p.length ≤ l.length) (V : Nat → Option (List Int)) (H : ¬ p.length = l.length → ∀ k, k < l.length → (k : Int) ∉ p → FitX l (p ++ [(k : Int)]) (V k)) : FitX l p (resF l p V) := by
 have ⟨hl, hm⟩ := znh l hs
 refine zbx Try.func84 (by rfl) (by rfl) (by rw [Try.ntmps84]; exact Nat.le_of_ble_eq_true rfl) rfl (by simp) rfl rfl ?_
 rw [Try.ntmps84]
 refine zjy (.own 1 (p.map cI)) (by simp [cvO] <;> assumption) ?_
 refine AW_k [(0, _), (1, _), (2, _)] ⟨rfl, rfl, rfl, trivial⟩ ?_
 refine AW_x rfl rfl fun K hK => ?_
 simp (disch := omega)
 repeat' first | (refine ⟨by omega, ?_⟩) | (intro _)
 refine hK _ ?_; clear hK K
 refine zbm ?_
 refine AW_x rfl rfl fun K hK => ?_
 simp (disch := omega)
 repeat' first | (refine ⟨by omega, ?_⟩) | (simp (disch := omega)) | (intro _)
 refine hK _ ?_; clear hK K
 refine zbl rfl (fun hc1 => ?_) (fun hc1 => ?_)
 ·try simp [zba, zbb, zbf, zbd] at hc1
  all_goals
   refine AW_x rfl rfl fun K hK => ?_
   simp (disch := omega)
   repeat' first | (exfalso; omega) | (refine ⟨fun _ => ?_, fun _ => ?_⟩) | (refine ⟨by omega, ?_⟩) | (simp (disch := omega)) | (intro _)
   all_goals (refine hK _ ?_; clear hK K)
   all_goals
    refine zbo (zcb [8] [] (by simp [List.range_succ, zbc, zbh, zbe]) (by simp) ?_)
    simp (disch := omega)
    all_goals first | (rw [zl9 (by omega)]; exact ⟨rfl, rfl, rfl⟩) | (obtain ⟨r, hr⟩ := Option.isSome_iff_exists.1 hc5; have hf : fitC l p V i = some r := (by unfold fitC; rw [if_neg (by simp [hni, hcm, htm, hc4, hc3, List.any_eq_true]; try exact hc3), hr]); rw [zjn (by omega) hc2 hf hpre, hr]; exact ⟨rfl, rfl, rfl⟩) | (rw [zma (by omega) (fun j hj => hpre j (by omega))]; exact ⟨rfl, rfl, rfl⟩) | trace_state
 ·try simp [zba, zbb, zbf, zbd] at hc1
  all_goals
   refine zbn ?_
   refine zbq ?_
   refine zbm ?_
   refine AW_x rfl rfl fun K hK => ?_
   simp (disch := omega)
   repeat' first | (exfalso; omega) | (refine ⟨fun _ => ?_, fun _ => ?_⟩) | (refine ⟨by omega, ?_⟩) | (simp (disch := omega)) | (intro _)
   all_goals (refine hK _ ?_; clear hK K)
   all_goals
    refine zbr ?_
    refine zb0 (fun mM sS => ∃ (i : Nat), mM = l.length - i ∧ (i ≤ l.length ∧ ∀ j, j < i → fitC l p V j = none) ∧ sS = { env := lkE [(0, .sl 11 (l.map DtCall.cells)), (2, .arr 8 0 p.length), (4, .ptr 80 0), (20, .sl 11 (l.map DtCall.cells)), (21, (.g (.int .i64 ((l.length : Nat))))), (22, (.g (.int .i64 ((i : Nat)))))], ob := lk [(8, .own 1 (p.map cI)), (80, .cells (DtState.cells (stP l p)))] }) ?_ ?_
    ·refine ⟨_, LeS.kx [(8, 8), (80, 80)] [(0, .sl 11 (l.map DtCall.cells)), (2, .arr 8 0 p.length), (4, .ptr 80 0), (20, .sl 11 (l.map DtCall.cells)), (21, (.g (.int .i64 ((l.length : Nat))))), (22, (.g (.int .i64 (((0) : Nat)))))] [(8, .own 1 (p.map cI)), (80, .cells (DtState.cells (stP l p)))] (by simp [KpR, renV2, renV, zbe, zbu, zbc, zbh, DtState.cells, DtCatalog.cells, zdr]; try rfl) (by simp [KpOX, renO, plO, cvO, renV, pl1, zbc, zbh, zbe, DtState.cells, DtCatalog.cells, zdr]; try rfl) (by rfl) (by simp) (by simp) (by rfl) (by simp [formsX, List.range_succ, zbc, zbh]), _, 0, rfl, ?_, rfl⟩
     ·simp
    ·rintro mM sS ⟨i, rfl, ⟨hi, hpre⟩, rfl⟩
     refine AW_x rfl rfl fun K hK => ?_
     simp (disch := omega)
     repeat' first | (refine ⟨by omega, ?_⟩) | (intro _)
     refine hK _ ?_; clear hK K
     refine zbm ?_
     refine zbl rfl (fun hc2 => ?_) (fun hc2 => ?_)
     ·try simp [zba, zbb, zbf, zbd] at hc2
      all_goals
       have hg : l[i]? = some l[i] := List.getElem?_eq_getElem (by omega)
       have hcm : cmdA l (i : Int) = l[i].fCmd := cmdA_at (l := l) (k := (i : Int)) (by simpa using hc2)
       have htm : txtA l (i : Int) = l[i].fText := txtA_at (l := l) (k := (i : Int)) (by simpa using hc2)
       refine zbn ?_
       refine zbq ?_
       refine zbm ?_
       refine zbr ?_
       refine AW_x rfl rfl fun K hK => ?_
       simp (disch := omega)
       repeat' first | (exfalso; omega) | (refine ⟨fun _ => ?_, fun _ => ?_⟩) | (refine ⟨by omega, ?_⟩) | (simp (disch := omega)) | (intro _)
       all_goals (refine hK _ ?_; clear hK K)
       all_goals
        refine zbm ?_
        refine AW_x rfl rfl fun K hK => ?_
        simp (disch := omega)
        repeat' first | (exfalso; omega) | (refine zdi (zbi zc0 (zbi zcs zbt)) (zni _ p rfl (i : Int) (by omega)) rfl ?_; simp (disch := omega)) | (refine zdj (zni _ p rfl (i : Int) (by omega)) (by rfl) ?_ ?_; (focus (simp (disch := omega) [zbp]; done)); simp (disch := omega)) | (refine zdi (zbi zc0 (zbi zc0 (zbi zcs zbt))) (isLate' l _ p rfl (i : Int) (by omega) hpr (by omega)) rfl ?_; simp (disch := omega)) | (refine zdj (isLate' l _ p rfl (i : Int) (by omega) hpr (by omega)) (by rfl) ?_ ?_; (focus (simp (disch := omega) [zbp]; done)); simp (disch := omega)) | (refine ⟨fun _ => ?_, fun _ => ?_⟩) | (refine ⟨by omega, ?_⟩) | (simp (disch := omega)) | (intro _)
        all_goals (refine hK _ ?_; clear hK K)
        all_goals
         refine zbl rfl (fun hc3 => ?_) (fun hc3 => ?_)
         ·try simp [zba, zbb, zbf, zbd] at hc3
          all_goals
           refine zb5 ?_
           refine zbq ?_
           refine zco rfl rfl fun K hK => ?_
           simp (disch := omega)
           repeat' first | (exfalso; omega) | (refine ⟨fun _ => ?_, fun _ => ?_⟩) | (refine ⟨by omega, ?_⟩) | (simp (disch := omega)) | (intro _)
           all_goals (refine hK _ ?_; clear hK K)
           all_goals
            refine ⟨_, LeS.kx [(8, 8), (80, 80)] [(0, .sl 11 (l.map DtCall.cells)), (2, .arr 8 0 p.length), (4, .ptr 80 0), (20, .sl 11 (l.map DtCall.cells)), (21, (.g (.int .i64 ((l.length : Nat))))), (22, (.g (.int .i64 (((i + 1) : Nat)))))] [(8, .own 1 (p.map cI)), (80, .cells (DtState.cells (stP l p)))] (by simp [KpR, renV2, renV, zbe, zbu, zbc, zbh, DtState.cells, DtCatalog.cells, zdr]; try rfl) (by simp [KpOX, renO, plO, cvO, renV, pl1, zbc, zbh, zbe, DtState.cells, DtCatalog.cells, zdr]; try rfl) (by rfl) (by simp) (by simp) (by rfl) (by simp [formsX, List.range_succ, zbc, zbh]), _, ?_, i + 1, rfl, ?_, rfl⟩
            ·omega
            ·refine ⟨by omega, fun j hj => ?_⟩
             by_cases e : j < i
             ·exact hpre j e
             ·obtain rfl : j = i := by omega
              unfold fitC
              first | (rw [if_pos (.inl (by assumption))]; done) | (rw [if_pos (.inr (.inl (List.any_eq_true.2 hc3)))]; done) | (rw [if_pos (.inr (.inr (by rw [hcm, htm]; exact hc4)))]; done) | (split <;> first | rfl | assumption) | trace_state
         ·try simp [zba, zbb, zbf, zbd] at hc3
          all_goals
           refine zbn ?_
           refine zbq ?_
           refine AW_x rfl rfl fun K hK => ?_
           simp (disch := omega)
           repeat' first | (exfalso; omega) | (refine zdl [] true [] (ztj (stP l p) l[i].fCmd (stP_sz _ _) (hm _ hc2)) ?_ ?_ ?_; (focus (simp [List.range_succ, nmC]; done)); (focus (simp (disch := omega) [zbp]; done)); simp (disch := omega)) | (refine ⟨fun _ => ?_, fun _ => ?_⟩) | (refine ⟨by omega, ?_⟩) | (simp (disch := omega)) | (intro _)
           all_goals (refine hK _ ?_; clear hK K)
           all_goals
            refine zbm ?_
            refine AW_x rfl rfl fun K hK => ?_
            simp (disch := omega)
            repeat' first | (refine ⟨by omega, ?_⟩) | (intro _)
            refine hK _ ?_; clear hK K
            refine zbl rfl (fun hc4 => ?_) (fun hc4 => ?_)
            ·try simp [zba, zbb, zbf, zbd] at hc4
             all_goals
              refine zb5 ?_
              refine zbq ?_
              refine zco rfl rfl fun K hK => ?_
              simp (disch := omega)
              repeat' first | (exfalso; omega) | (refine ⟨fun _ => ?_, fun _ => ?_⟩) | (refine ⟨by omega, ?_⟩) | (simp (disch := omega)) | (intro _)
              all_goals (refine hK _ ?_; clear hK K)
              all_goals
               refine ⟨_, LeS.kx [(8, 8), (80, 80)] [(0, .sl 11 (l.map DtCall.cells)), (2, .arr 8 0 p.length), (4, .ptr 80 0), (20, .sl 11 (l.map DtCall.cells)), (21, (.g (.int .i64 ((l.length : Nat))))), (22, (.g (.int .i64 (((i + 1) : Nat)))))] [(8, .own 1 (p.map cI)), (80, .cells (DtState.cells (stP l p)))] (by simp [KpR, renV2, renV, zbe, zbu, zbc, zbh, DtState.cells, DtCatalog.cells, zdr]; try rfl) (by simp [KpOX, renO, plO, cvO, renV, pl1, zbc, zbh, zbe, DtState.cells, DtCatalog.cells, zdr]; try rfl) (by rfl) (by simp) (by simp) (by rfl) (by simp [formsX, List.range_succ, zbc, zbh]), _, ?_, i + 1, rfl, ?_, rfl⟩
               ·omega
               ·refine ⟨by omega, fun j hj => ?_⟩
                by_cases e : j < i
                ·exact hpre j e
                ·obtain rfl : j = i := by omega
                 unfold fitC
                 first | (rw [if_pos (.inl (by assumption))]; done) | (rw [if_pos (.inr (.inl (List.any_eq_true.2 hc3)))]; done) | (rw [if_pos (.inr (.inr (by rw [hcm, htm]; exact hc4)))]; done) | (split <;> first | rfl | assumption) | trace_state
            ·try simp [zba, zbb, zbf, zbd] at hc4
             all_goals
              refine zbn ?_
              refine zbq ?_
              refine AW_wn (sz := 1) 8 (zdr p) (by simp [zbe, zbc, zbh]) ?_
              have hni : (i : Int) ∉ p := by grind
              have hH : FitX l (p ++ [(i : Int)]) (V i) := H (by omega) i hc2 hni
              rw [FitX, zv2, hcm] at hH
              refine AW_d rfl mix (by kernel_rfl) (by kernel_rfl) fun K hK => ?_
              simp (disch := omega)
              repeat' first | (exfalso; omega) | (refine zpi [896] true [] (hH) ?_ (fun st' hst => ?_) ?_; (focus (simp [List.range_succ, nmC]; done)); (focus (simp (disch := omega) [nmC, List.range_succ] at hst; simp (disch := omega) [hst, zbp, nmC, List.range_succ]; done)); simp (disch := omega)) | (refine ⟨fun _ => ?_, fun _ => ?_⟩) | (refine ⟨by omega, ?_⟩) | (simp (disch := omega)) | (intro _)
              all_goals (refine hK _ _ (by kernel_rfl) ?_; clear hK K)
              all_goals
               refine AW_x rfl rfl fun K hK => ?_
               simp (disch := omega)
               repeat' first | (refine ⟨by omega, ?_⟩) | (intro _)
               refine hK _ ?_; clear hK K
               refine zbl rfl (fun hc5 => ?_) (fun hc5 => ?_)
               ·try simp [zba, zbb, zbf, zbd] at hc5
                all_goals
                 refine AW_x rfl rfl fun K hK => ?_
                 simp (disch := omega)
                 repeat' first | (exfalso; omega) | (refine ⟨fun _ => ?_, fun _ => ?_⟩) | (refine ⟨by omega, ?_⟩) | (simp (disch := omega)) | (intro _)
                 all_goals (refine hK _ ?_; clear hK K)
                 all_goals
                  refine zbo (zcb [912] [] (by simp [List.range_succ, zbc, zbh, zbe]) (by simp) ?_)
                  simp (disch := omega)
                  all_goals first | (rw [zl9 (by omega)]; exact ⟨rfl, rfl, rfl⟩) | (obtain ⟨r, hr⟩ := Option.isSome_iff_exists.1 hc5; have hf : fitC l p V i = some r := (by unfold fitC; rw [if_neg (by simp [hni, hcm, htm, hc4, hc3, List.any_eq_true]; try exact hc3), hr]); rw [zjn (by omega) hc2 hf hpre, hr]; exact ⟨rfl, rfl, rfl⟩) | (rw [zma (by omega) (fun j hj => hpre j (by omega))]; exact ⟨rfl, rfl, rfl⟩) | trace_state
               ·try simp [zba, zbb, zbf, zbd] at hc5
                all_goals
                 refine zbn ?_
                 refine zbq ?_
                 refine zco rfl rfl fun K hK => ?_
                 simp (disch := omega)
                 repeat' first | (exfalso; omega) | (refine ⟨fun _ => ?_, fun _ => ?_⟩) | (refine ⟨by omega, ?_⟩) | (simp (disch := omega)) | (intro _)
                 all_goals (refine hK _ ?_; clear hK K)
                 all_goals
                  refine ⟨_, LeS.kx [(8, 8), (80, 80)] [(0, .sl 11 (l.map DtCall.cells)), (2, .arr 8 0 p.length), (4, .ptr 80 0), (20, .sl 11 (l.map DtCall.cells)), (21, (.g (.int .i64 ((l.length : Nat))))), (22, (.g (.int .i64 (((i + 1) : Nat)))))] [(8, .own 1 (p.map cI)), (80, .cells (DtState.cells (stP l p)))] (by simp [KpR, renV2, renV, zbe, zbu, zbc, zbh, DtState.cells, DtCatalog.cells, zdr]; try rfl) (by simp [KpOX, renO, plO, cvO, renV, pl1, zbc, zbh, zbe, DtState.cells, DtCatalog.cells, zdr]; try rfl) (by rfl) (by simp) (by simp) (by rfl) (by simp [formsX, List.range_succ, zbc, zbh]), _, ?_, i + 1, rfl, ?_, rfl⟩
                  ·omega
                  ·refine ⟨by omega, fun j hj => ?_⟩
                   by_cases e : j < i
                   ·exact hpre j e
                   ·obtain rfl : j = i := by omega
                    unfold fitC
                    first | (rw [if_pos (.inl (by assumption))]; done) | (rw [if_pos (.inr (.inl (List.any_eq_true.2 hc3)))]; done) | (rw [if_pos (.inr (.inr (by rw [hcm, htm]; exact hc4)))]; done) | (split <;> first | rfl | assumption) | trace_state
     ·try simp [zba, zbb, zbf, zbd] at hc2
      all_goals
       have hil : i = l.length := by omega
       refine zb5 ?_
       refine zbq ?_
       refine AW_x rfl rfl fun K hK => ?_
       simp (disch := omega)
       repeat' first | (exfalso; omega) | (refine ⟨fun _ => ?_, fun _ => ?_⟩) | (refine ⟨by omega, ?_⟩) | (simp (disch := omega)) | (intro _)
       all_goals (refine hK _ ?_; clear hK K)
       all_goals
        refine zbo (zcb [1000] [(1000, 1)] (by simp [List.range_succ, zbc, zbh, zbe]) (by simp) ?_)
        simp (disch := omega)
        all_goals first | (rw [zl9 (by omega)]; exact ⟨rfl, rfl, rfl⟩) | (obtain ⟨r, hr⟩ := Option.isSome_iff_exists.1 hc5; have hf : fitC l p V i = some r := (by unfold fitC; rw [if_neg (by simp [hni, hcm, htm, hc4, hc3, List.any_eq_true]; try exact hc3), hr]); rw [zjn (by omega) hc2 hf hpre, hr]; exact ⟨rfl, rfl, rfl⟩) | (rw [zma (by omega) (fun j hj => hpre j (by omega))]; exact ⟨rfl, rfl, rfl⟩) | trace_state
abbrev FndX (l : List DtCall) (p : List Int) (r : Option (List Int)) : Prop := XCall Try.prog 83 [.sl 11 (l.map DtCall.cells), .sl 1 (seenL l.length p), .agg (DtState.cells (stP l p))] [] (.tup [.arr 16 0 (optL r).length, (.g (.bool (r.isSome)))]) [] [.own 1 ((optL r).map cI)]
def MayT (l : List DtCall) (p : List Int) (i j : Nat) : Prop := ∀ a : Nat, a < j → (a : Int) ∈ p ∨ a = i ∨ lateB l a i = false
theorem zh3 (l : List DtCall) (p : List Int) (i j : Nat) : decB (MayT l p i (j + 1)) = (decB (MayT l p i j) && (decide ((j : Int) ∈ p) || (decide ((j : Int) = (i : Int)) || !lateB l j i))) := by
 rw [Bool.eq_iff_iff]
 simp only [zba, Bool.and_eq_true, Bool.or_eq_true, decide_eq_true_eq, Bool.not_eq_true']
 constructor
 ·intro h
  refine ⟨fun a ha => h a (by omega), ?_⟩
  rcases h j (by omega) with h | h | h
  ·exact .inl h
  ·exact .inr (.inl (by omega))
  ·exact .inr (.inr h)
 ·rintro ⟨h1, h2⟩ a ha
  by_cases e : a < j
  ·exact h1 a e
  ·obtain rfl : a = j := by omega
   rcases h2 with h | h | h
   ·exact .inl h
   ·exact .inr (.inl (by omega))
   ·exact .inr (.inr h)
theorem znk {l : List DtCall} {p : List Int} {i j : Nat} {m : Bool} (hj : j = l.length) (h : m = decB (MayT l p i j)) : decB (MayP' l p i) = m := by subst hj; exact h.symm
theorem zv6 {l : List DtCall} {p : List Int} {b : Bool} {i : Nat} (hi : i = l.length) (h0 : b = false → ∀ j : Nat, j < i → (j : Int) ∈ p) (h1 : b = true → ∃ j : Nat, j < l.length ∧ (j : Int) ∉ p) : allS l p = !b := by
 cases b with
 | false => exact zcc fun k hk => h0 rfl k (by omega)
 | true =>
  obtain ⟨j, hj, hn⟩ := h1 rfl
  exact zc6 fun h => hn (h j hj)
theorem znl {l : List DtCall} {p : List Int} {V : Nat → Option (List Int)} {k : Nat} (hk : k < l.length) {r : List Int} (hr : fndC l p V k = some r) (hb : ∀ j, j < k → fndC l p V j = none) : resV l p V = some r := by unfold resV; rw [znj hk hr hb]
theorem zrx {l : List DtCall} {p : List Int} {V : Nat → Option (List Int)} (hb : ∀ j, j < l.length → fndC l p V j = none) : optL (resV l p V) = [] ∧ (resV l p V).isSome = allS l p := by
 unfold resV
 rw [zl8 hb]
 simp only
 cases allS l p <;> exact ⟨rfl, rfl⟩
theorem znm (n : Nat) (p : List Int) : (seenL n p).take n = seenL n p := List.take_of_length_le (by rw [zl4]; omega)
attribute [local simp] zng zl4 znm cB
theorem fndStep (l : List DtCall) (hs : szS DtCall.sz l ≤ 1048576) (p : List Int) (V : Nat → Option (List Int)) (hV : ∀ k, (optL (V k)).length ≤ 1048576) (H : ∀ k, k < l.length → (k : Int) ∉ p → FndX l (p ++ [(k : Int)]) (V k)) : FndX l p (resV l p V) := by
 have ⟨hl, hm⟩ := znh l hs
 refine zbx Try.func83 (by rfl) (by rfl) (by rw [Try.ntmps83]; exact Nat.le_of_ble_eq_true rfl) rfl (by simp) rfl rfl ?_
 rw [Try.ntmps83]
 refine zgg   ?_
 refine AW_k [(0, _), (1, _), (2, _)] ⟨rfl, rfl, rfl, trivial⟩ ?_
 refine AW_x rfl rfl fun K hK => ?_
 simp (disch := omega)
 repeat' first | (refine ⟨by omega, ?_⟩) | (intro _)
 refine hK _ ?_; clear hK K
 refine AW_x rfl rfl fun K hK => ?_
 simp (disch := omega)
 repeat' first | (refine ⟨by omega, ?_⟩) | (intro _)
 refine hK _ ?_; clear hK K
 refine zbm ?_
 refine AW_x rfl rfl fun K hK => ?_
 simp (disch := omega)
 repeat' first | (refine ⟨by omega, ?_⟩) | (intro _)
 refine hK _ ?_; clear hK K
 refine zbr ?_
 refine zb0 (fun mM sS => ∃ (i : Nat) (b : Bool), mM = l.length - i ∧ (i ≤ l.length ∧ (∀ j, j < i → fndC l p V j = none) ∧ (b = false → ∀ j : Nat, j < i → (j : Int) ∈ p) ∧ (b = true → ∃ j : Nat, j < l.length ∧ (j : Int) ∉ p)) ∧ sS = { env := lkE [(0, .sl 11 (l.map DtCall.cells)), (1, .sl 1 (seenL l.length p)), (5, .ptr 96 0), (8, (.g (.bool (b)))), (9, (.g (.int .i64 ((i : Nat)))))], ob := lk [(96, .cells (DtState.cells (stP l p)))] }) ?_ ?_
 ·refine ⟨_, LeS.kx [(96, 96)] [(0, .sl 11 (l.map DtCall.cells)), (1, .sl 1 (seenL l.length p)), (5, .ptr 96 0), (8, (.g (.bool ((false))))), (9, (.g (.int .i64 (((0) : Nat)))))] [(96, .cells (DtState.cells (stP l p)))] (by simp [KpR, renV2, renV, zbe, zbu, zbc, zbh, DtState.cells, DtCatalog.cells, zdr, zd5]; try rfl) (by simp [KpOX, renO, plO, cvO, renV, pl1, zbc, zbh, zbe, DtState.cells, DtCatalog.cells, zdr, zd5]; try rfl) (by rfl) (by simp) (by simp) (by rfl) (by simp [formsX, List.range_succ, zbc, zbh]), _, 0, false, rfl, ?_, rfl⟩
  ·simp
 ·rintro mM sS ⟨i, b, rfl, ⟨hi, hpre, hb0, hb1⟩, rfl⟩
  refine zbm ?_
  refine AW_x rfl rfl fun K hK => ?_
  simp (disch := omega)
  repeat' first | (refine ⟨by omega, ?_⟩) | (simp (disch := omega)) | (intro _)
  refine hK _ ?_; clear hK K
  refine zbl rfl (fun hc6 => ?_) (fun hc6 => ?_)
  ·try simp [zba, zbb, zbf, zbd] at hc6
   all_goals
    have hi2 : i < l.length := by omega
    have hg : l[i]? = some l[i] := List.getElem?_eq_getElem (by omega)
    have hcm : cmdA l (i : Int) = l[i].fCmd := cmdA_at (l := l) (k := (i : Int)) (by simpa using hi2)
    have htm : txtA l (i : Int) = l[i].fText := txtA_at (l := l) (k := (i : Int)) (by simpa using hi2)
    have hsi := zv3 l.length p i hi2
    refine zbn ?_
    refine zbq ?_
    refine zbm ?_
    refine zbr ?_
    refine zbm ?_
    refine AW_x rfl rfl fun K hK => ?_
    simp (disch := omega) [hsi]
    repeat' first | (exfalso; omega) | (refine ⟨fun _ => ?_, fun _ => ?_⟩) | (refine ⟨by omega, ?_⟩) | (simp (disch := omega) [hsi]) | (intro _)
    all_goals (refine hK _ ?_; clear hK K)
    all_goals
     refine zbl rfl (fun hc7 => ?_) (fun hc7 => ?_)
     ·try simp [zba, zbb, zbf, zbd] at hc7
      all_goals
       refine zb5 ?_
       refine zbq ?_
       refine zco rfl rfl fun K hK => ?_
       simp (disch := omega) [hsi]
       repeat' first | (exfalso; omega) | (refine ⟨fun _ => ?_, fun _ => ?_⟩) | (refine ⟨by omega, ?_⟩) | (simp (disch := omega) [hsi]) | (intro _)
       all_goals (refine hK _ ?_; clear hK K)
       all_goals
        refine ⟨_, LeS.kx [(96, 96)] [(0, .sl 11 (l.map DtCall.cells)), (1, .sl 1 (seenL l.length p)), (5, .ptr 96 0), (8, (.g (.bool ((b))))), (9, (.g (.int .i64 (((i + 1) : Nat)))))] [(96, .cells (DtState.cells (stP l p)))] (by simp [KpR, renV2, renV, zbe, zbu, zbc, zbh, DtState.cells, DtCatalog.cells, zdr, zd5]; try rfl) (by simp [KpOX, renO, plO, cvO, renV, pl1, zbc, zbh, zbe, DtState.cells, DtCatalog.cells, zdr, zd5]; try rfl) (by rfl) (by simp) (by simp) (by rfl) (by simp [formsX, List.range_succ, zbc, zbh]), _, ?_, i + 1, b, rfl, ?_, rfl⟩
        ·omega
        ·refine ⟨by omega, fun a ha => ?_, ?_, ?_⟩
         ·by_cases e : a < i
          ·exact hpre a e
          ·obtain rfl : a = i := by omega
           unfold fndC
           first | (rw [if_pos (.inl (by assumption))]; done) | (rw [if_pos (.inr (.inl (by rw [znk hjl hpm]; assumption)))]; done) | (rw [if_pos (.inr (.inr (by rw [hcm, htm]; assumption)))]; done) | (split <;> first | rfl | (simp_all; done)) | trace_state
         ·first | exact fun h a ha => if e : a < i then hb0 h a e else (by have : a = i := (by omega); subst this; assumption) | exact fun h => (by cases h)
         ·first | exact hb1 | exact fun _ => ⟨i, hi2, hc7⟩
     ·try simp [zba, zbb, zbf, zbd] at hc7
      all_goals
       refine zbn ?_
       refine zbq ?_
       refine AW_x rfl rfl fun K hK => ?_
       simp (disch := omega) [hsi]
       repeat' first | (exfalso; omega) | (refine ⟨fun _ => ?_, fun _ => ?_⟩) | (refine ⟨by omega, ?_⟩) | (simp (disch := omega) [hsi]) | (intro _)
       all_goals (refine hK _ ?_; clear hK K)
       all_goals
        refine AW_x rfl rfl fun K hK => ?_
        simp (disch := omega) [hsi]
        repeat' first | (refine ⟨by omega, ?_⟩) | (intro _)
        refine hK _ ?_; clear hK K
        refine zbm ?_
        refine AW_x rfl rfl fun K hK => ?_
        simp (disch := omega) [hsi]
        repeat' first | (refine ⟨by omega, ?_⟩) | (intro _)
        refine hK _ ?_; clear hK K
        refine zbr ?_
        refine zb0 (fun mM sS => ∃ (j : Nat) (m : Bool), mM = l.length - j ∧ (j ≤ l.length ∧ m = decB (MayT l p i j)) ∧ sS = { env := lkE [(0, .sl 11 (l.map DtCall.cells)), (1, .sl 1 (seenL l.length p)), (5, .ptr 96 0), (8, (.g (.bool (true)))), (9, (.g (.int .i64 ((i : Nat))))), (10, (.g (.bool (m)))), (11, (.g (.int .i64 ((j : Nat)))))], ob := lk [(96, .cells (DtState.cells (stP l p)))] }) ?_ ?_
        ·refine ⟨_, LeS.kx [(96, 96)] [(0, .sl 11 (l.map DtCall.cells)), (1, .sl 1 (seenL l.length p)), (5, .ptr 96 0), (8, (.g (.bool (true)))), (9, (.g (.int .i64 ((i : Nat))))), (10, (.g (.bool ((true))))), (11, (.g (.int .i64 (((0) : Nat)))))] [(96, .cells (DtState.cells (stP l p)))] (by simp [KpR, renV2, renV, zbe, zbu, zbc, zbh, DtState.cells, DtCatalog.cells]; first | (simp; done) | omega | (rw [zh3, ← hpm]; clear hsj hsi hgj hg hpm; simp_all; done) | (have hx : m = true := (by assumption); rw [zh3, ← hpm, hlt, hx, decide_eq_false (p := (j : Int) ∈ p) (by assumption), decide_eq_false (p := (j : Int) = (i : Int)) (by assumption), Bool.eq_iff_iff]; simp; done) | trace_state) (by simp [KpOX, renO, plO, cvO, renV, pl1, zbc, zbh, zbe, DtState.cells, DtCatalog.cells]; try rfl) (by rfl) (by simp) (by simp) (by rfl) (by simp [formsX, List.range_succ, zbc, zbh]), _, 0, true, rfl, ?_, rfl⟩
         ·exact ⟨by omega, (zcc fun a ha => by omega).symm⟩
        ·rintro mM sS ⟨j, m, rfl, ⟨hj, hpm⟩, rfl⟩
         refine zbm ?_
         refine AW_x rfl rfl fun K hK => ?_
         simp (disch := omega) [hsi]
         repeat' first | (refine ⟨by omega, ?_⟩) | (simp (disch := omega) [hsi]) | (intro _)
         refine hK _ ?_; clear hK K
         refine zbl rfl (fun hc8 => ?_) (fun hc8 => ?_)
         ·try simp [zba, zbb, zbf, zbd] at hc8
          all_goals
           have hgj : l[j]? = some l[j] := List.getElem?_eq_getElem (by omega)
           have hlt := zv1 (l := l) (k := (j : Int)) (j := (i : Int)) (by simp; omega) (by simp; omega)
           simp only [Int.toNat_natCast] at hlt
           have hsj := zv3 l.length p j (by omega)
           refine zbn ?_
           refine zbq ?_
           refine zbm ?_
           refine zbr ?_
           refine zw2 rfl mix (by kernel_rfl) (by kernel_rfl) fun K hK => ?_
           simp (disch := omega) [hsi, hsj]
           repeat' first | (exfalso; omega) | (refine ⟨fun _ => ?_, fun _ => ?_⟩) | (refine ⟨by omega, ?_⟩) | (simp (disch := omega) [hsi, hsj]) | (intro _)
           all_goals (refine hK _ _ (by kernel_rfl) ?_; clear hK K)
           all_goals
            refine zbq ?_
            refine zco rfl rfl fun K hK => ?_
            simp (disch := omega) [hsi, hsj]
            repeat' first | (refine ⟨by omega, ?_⟩) | (intro _)
            refine hK _ ?_; clear hK K
            refine ⟨_, LeS.kx [(96, 96)] [(0, .sl 11 (l.map DtCall.cells)), (1, .sl 1 (seenL l.length p)), (5, .ptr 96 0), (8, (.g (.bool (true)))), (9, (.g (.int .i64 ((i : Nat))))), (10, (.g (.bool ((decB (MayT l p i (j + 1))))))), (11, (.g (.int .i64 (((j + 1) : Nat)))))] [(96, .cells (DtState.cells (stP l p)))] (by simp [KpR, renV2, renV, zbe, zbu, zbc, zbh, DtState.cells, DtCatalog.cells]; first | (simp; done) | omega | (rw [zh3, ← hpm]; clear hsj hsi hgj hg hpm; simp_all; done) | (have hx : m = true := (by assumption); rw [zh3, ← hpm, hlt, hx, decide_eq_false (p := (j : Int) ∈ p) (by assumption), decide_eq_false (p := (j : Int) = (i : Int)) (by assumption), Bool.eq_iff_iff]; simp; done) | trace_state) (by simp [KpOX, renO, plO, cvO, renV, pl1, zbc, zbh, zbe, DtState.cells, DtCatalog.cells]; try rfl) (by rfl) (by simp) (by simp) (by rfl) (by simp [formsX, List.range_succ, zbc, zbh]), _, ?_, j + 1, decB (MayT l p i (j + 1)), rfl, ?_, rfl⟩
            ·omega
            ·first | exact ⟨by omega, rfl⟩ | trace_state
         ·try simp [zba, zbb, zbf, zbd] at hc8
          all_goals
           have hjl : j = l.length := by omega
           refine zb5 ?_
           refine zbq ?_
           refine zbm ?_
           refine AW_x rfl rfl fun K hK => ?_
           simp (disch := omega) [hsi]
           repeat' first | (exfalso; omega) | (refine ⟨fun _ => ?_, fun _ => ?_⟩) | (refine ⟨by omega, ?_⟩) | (simp (disch := omega) [hsi]) | (intro _)
           all_goals (refine hK _ ?_; clear hK K)
           all_goals
            refine zbl rfl (fun hc9 => ?_) (fun hc9 => ?_)
            ·try simp [zba, zbb, zbf, zbd] at hc9
             all_goals
              refine zb5 ?_
              refine zbq ?_
              refine zco rfl rfl fun K hK => ?_
              simp (disch := omega) [hsi]
              repeat' first | (exfalso; omega) | (refine ⟨fun _ => ?_, fun _ => ?_⟩) | (refine ⟨by omega, ?_⟩) | (simp (disch := omega) [hsi]) | (intro _)
              all_goals (refine hK _ ?_; clear hK K)
              all_goals
               refine ⟨_, LeS.kx [(96, 96)] [(0, .sl 11 (l.map DtCall.cells)), (1, .sl 1 (seenL l.length p)), (5, .ptr 96 0), (8, (.g (.bool ((true))))), (9, (.g (.int .i64 (((i + 1) : Nat)))))] [(96, .cells (DtState.cells (stP l p)))] (by simp [KpR, renV2, renV, zbe, zbu, zbc, zbh, DtState.cells, DtCatalog.cells, zdr, zd5]; try rfl) (by simp [KpOX, renO, plO, cvO, renV, pl1, zbc, zbh, zbe, DtState.cells, DtCatalog.cells, zdr, zd5]; try rfl) (by rfl) (by simp) (by simp) (by rfl) (by simp [formsX, List.range_succ, zbc, zbh]), _, ?_, i + 1, true, rfl, ?_, rfl⟩
               ·omega
               ·refine ⟨by omega, fun a ha => ?_, ?_, ?_⟩
                ·by_cases e : a < i
                 ·exact hpre a e
                 ·obtain rfl : a = i := by omega
                  unfold fndC
                  first | (rw [if_pos (.inl (by assumption))]; done) | (rw [if_pos (.inr (.inl (by rw [znk hjl hpm]; assumption)))]; done) | (rw [if_pos (.inr (.inr (by rw [hcm, htm]; assumption)))]; done) | (split <;> first | rfl | (simp_all; done)) | trace_state
                ·first | exact fun h a ha => if e : a < i then hb0 h a e else (by have : a = i := (by omega); subst this; assumption) | exact fun h => (by cases h)
                ·first | exact hb1 | exact fun _ => ⟨i, hi2, hc7⟩
            ·try simp [zba, zbb, zbf, zbd] at hc9
             all_goals
              refine zbn ?_
              refine zbq ?_
              refine AW_d rfl mix (by kernel_rfl) (by kernel_rfl) fun K hK => ?_
              simp (disch := omega) [hsi]
              repeat' first | (exfalso; omega) | (refine zpi [] true [] (ztk (stP l p) l[i].fCmd (stP_sz _ _) (hm _ hi2)) ?_ (fun st' hst => ?_) ?_; (focus (simp [List.range_succ, nmC]; done)); (focus (simp (disch := omega) [hsi, nmC, List.range_succ] at hst; simp (disch := omega) [hsi, hst, zbp, nmC, List.range_succ]; done)); simp (disch := omega) [hsi]) | (refine ⟨fun _ => ?_, fun _ => ?_⟩) | (refine ⟨by omega, ?_⟩) | (simp (disch := omega) [hsi]) | (intro _)
              all_goals (refine hK _ _ (by kernel_rfl) ?_; clear hK K)
              all_goals
               refine zbm ?_
               refine AW_x rfl rfl fun K hK => ?_
               simp (disch := omega) [hsi]
               repeat' first | (refine ⟨by omega, ?_⟩) | (intro _)
               refine hK _ ?_; clear hK K
               refine zbl rfl (fun hc10 => ?_) (fun hc10 => ?_)
               ·try simp [zba, zbb, zbf, zbd] at hc10
                all_goals
                 refine zb5 ?_
                 refine zbq ?_
                 refine zco rfl rfl fun K hK => ?_
                 simp (disch := omega) [hsi]
                 repeat' first | (exfalso; omega) | (refine ⟨fun _ => ?_, fun _ => ?_⟩) | (refine ⟨by omega, ?_⟩) | (simp (disch := omega) [hsi]) | (intro _)
                 all_goals (refine hK _ ?_; clear hK K)
                 all_goals
                  refine ⟨_, LeS.kx [(96, 96)] [(0, .sl 11 (l.map DtCall.cells)), (1, .sl 1 (seenL l.length p)), (5, .ptr 96 0), (8, (.g (.bool ((true))))), (9, (.g (.int .i64 (((i + 1) : Nat)))))] [(96, .cells (DtState.cells (stP l p)))] (by simp [KpR, renV2, renV, zbe, zbu, zbc, zbh, DtState.cells, DtCatalog.cells, zdr, zd5]; try rfl) (by simp [KpOX, renO, plO, cvO, renV, pl1, zbc, zbh, zbe, DtState.cells, DtCatalog.cells, zdr, zd5]; try rfl) (by rfl) (by simp) (by simp) (by rfl) (by simp [formsX, List.range_succ, zbc, zbh]), _, ?_, i + 1, true, rfl, ?_, rfl⟩
                  ·omega
                  ·refine ⟨by omega, fun a ha => ?_, ?_, ?_⟩
                   ·by_cases e : a < i
                    ·exact hpre a e
                    ·obtain rfl : a = i := by omega
                     unfold fndC
                     first | (rw [if_pos (.inl (by assumption))]; done) | (rw [if_pos (.inr (.inl (by rw [znk hjl hpm]; assumption)))]; done) | (rw [if_pos (.inr (.inr (by rw [hcm, htm]; assumption)))]; done) | (split <;> first | rfl | (simp_all; done)) | trace_state
                   ·first | exact fun h a ha => if e : a < i then hb0 h a e else (by have : a = i := (by omega); subst this; assumption) | exact fun h => (by cases h)
                   ·first | exact hb1 | exact fun _ => ⟨i, hi2, hc7⟩
               ·try simp [zba, zbb, zbf, zbd] at hc10
                all_goals
                 refine zbn ?_
                 refine zbq ?_
                 refine AW_x rfl rfl fun K hK => ?_
                 simp (disch := omega) [hsi]
                 repeat' first | (exfalso; omega) | (refine ⟨fun _ => ?_, fun _ => ?_⟩) | (refine ⟨by omega, ?_⟩) | (simp (disch := omega) [hsi]) | (intro _)
                 all_goals (refine hK _ ?_; clear hK K)
                 all_goals
                  refine AW_x rfl rfl fun K hK => ?_
                  simp (disch := omega) [hsi]
                  repeat' first | (refine ⟨by omega, ?_⟩) | (simp (disch := omega) [hsi]) | (intro _)
                  refine hK _ ?_; clear hK K
                  have hni : (i : Int) ∉ p := hc7
                  have hH : FndX l (p ++ [(i : Int)]) (V i) := H i hi2 hni
                  rw [FndX, zv2, hcm] at hH
                  rw [zxd]
                  refine AW_x rfl rfl fun K hK => ?_
                  simp (disch := omega) [hsi]
                  repeat' first | (exfalso; omega) | (refine zdl [] true [] (hH) ?_ ?_ ?_; (focus (simp [List.range_succ, nmC]; done)); (focus (simp (disch := omega) [hsi, zbp]; done)); simp (disch := omega) [hsi]) | (refine ⟨by omega, ?_⟩) | (simp (disch := omega) [hsi]) | (intro _)
                  refine hK _ ?_; clear hK K
                  refine AW_x rfl rfl fun K hK => ?_
                  simp (disch := omega) [hsi]
                  repeat' first | (refine ⟨by omega, ?_⟩) | (intro _)
                  refine hK _ ?_; clear hK K
                  refine zbl rfl (fun hc11 => ?_) (fun hc11 => ?_)
                  ·try simp [zba, zbb, zbf, zbd] at hc11
                   all_goals
                    have hVk := hV i
                    refine AW_wn (sz := 1) 1408 (zdr (optL (V i))) (by simp [zbe, zbc, zbh]) ?_
                    refine AW_x rfl rfl fun K hK => ?_
                    simp (disch := omega) [hsi]
                    repeat' first | (exfalso; omega) | (refine ⟨fun _ => ?_, fun _ => ?_⟩) | (refine ⟨by omega, ?_⟩) | (simp (disch := omega) [hsi]) | (intro _)
                    all_goals (refine hK _ ?_; clear hK K)
                    all_goals
                     refine zbo (zcb [1520] [] (by simp [List.range_succ, zbc, zbh, zbe]) (by simp) ?_)
                     simp (disch := omega) [hsi]
                     all_goals first | (obtain ⟨r, hr⟩ := Option.isSome_iff_exists.1 hc11; have hf : fndC l p V i = some ((i : Int) :: r) := (by unfold fndC; rw [if_neg (by rw [znk hjl hpm, hc9, hcm, htm, hc10]; simp [hc7]), hr]; rfl); rw [znl hi2 hf hpre, hr]; exact ⟨by simp [optL]; omega, rfl, by simp [optL, cI]⟩) | (have ⟨h1, h2⟩ := zrx (V := V) (fun j hj => hpre j (by omega)); rw [h1, h2, zv6 hil hb0 hb1]; exact ⟨rfl, rfl, rfl⟩) | trace_state
                  ·try simp [zba, zbb, zbf, zbd] at hc11
                   all_goals
                    refine zbn ?_
                    refine zbq ?_
                    refine zco rfl rfl fun K hK => ?_
                    simp (disch := omega) [hsi]
                    repeat' first | (exfalso; omega) | (refine ⟨fun _ => ?_, fun _ => ?_⟩) | (refine ⟨by omega, ?_⟩) | (simp (disch := omega) [hsi]) | (intro _)
                    all_goals (refine hK _ ?_; clear hK K)
                    all_goals
                     refine ⟨_, LeS.kx [(96, 96)] [(0, .sl 11 (l.map DtCall.cells)), (1, .sl 1 (seenL l.length p)), (5, .ptr 96 0), (8, (.g (.bool ((true))))), (9, (.g (.int .i64 (((i + 1) : Nat)))))] [(96, .cells (DtState.cells (stP l p)))] (by simp [KpR, renV2, renV, zbe, zbu, zbc, zbh, DtState.cells, DtCatalog.cells, zdr, zd5]; try rfl) (by simp [KpOX, renO, plO, cvO, renV, pl1, zbc, zbh, zbe, DtState.cells, DtCatalog.cells, zdr, zd5]; try rfl) (by rfl) (by simp) (by simp) (by rfl) (by simp [formsX, List.range_succ, zbc, zbh]), _, ?_, i + 1, true, rfl, ?_, rfl⟩
                     ·omega
                     ·refine ⟨by omega, fun a ha => ?_, ?_, ?_⟩
                      ·by_cases e : a < i
                       ·exact hpre a e
                       ·obtain rfl : a = i := by omega
                        unfold fndC
                        first | (rw [if_pos (.inl (by assumption))]; done) | (rw [if_pos (.inr (.inl (by rw [znk hjl hpm]; assumption)))]; done) | (rw [if_pos (.inr (.inr (by rw [hcm, htm]; assumption)))]; done) | (split <;> first | rfl | (simp_all; done)) | trace_state
                      ·first | exact fun h a ha => if e : a < i then hb0 h a e else (by have : a = i := (by omega); subst this; assumption) | exact fun h => (by cases h)
                      ·first | exact hb1 | exact fun _ => ⟨i, hi2, hc7⟩
  ·try simp [zba, zbb, zbf, zbd] at hc6
   all_goals
    have hil : i = l.length := by omega
    refine zb5 ?_
    refine zbq ?_
    refine AW_x rfl rfl fun K hK => ?_
    simp (disch := omega)
    repeat' first | (exfalso; omega) | (refine ⟨fun _ => ?_, fun _ => ?_⟩) | (refine ⟨by omega, ?_⟩) | (simp (disch := omega)) | (intro _)
    all_goals (refine hK _ ?_; clear hK K)
    all_goals
     refine zbo (zcb [1536] [] (by simp [List.range_succ, zbc, zbh, zbe]) (by simp) ?_)
     simp (disch := omega)
     all_goals first | (obtain ⟨r, hr⟩ := Option.isSome_iff_exists.1 hc11; have hf : fndC l p V i = some ((i : Int) :: r) := (by unfold fndC; rw [if_neg (by rw [znk hjl hpm, hc9, hcm, htm, hc10]; simp [hc7]), hr]; rfl); rw [znl hi2 hf hpre, hr]; exact ⟨by simp [optL]; omega, rfl, by simp [optL, cI]⟩) | (have ⟨h1, h2⟩ := zrx (V := V) (fun j hj => hpre j (by omega)); rw [h1, h2, zv6 hil hb0 hb1]; exact ⟨rfl, rfl, rfl⟩) | trace_state
theorem zv7 (l : List DtCall) : ∀ (d : Nat) (p : List Int), (optL (fndI l d p)).length ≤ d := by
 have key : ∀ (p : List Int) (V : Nat → Option (List Int)) (d : Nat), (∀ k, (optL (V k)).length + 1 ≤ d ∨ V k = none) → (optL (resV l p V)).length ≤ d := by
  intro p V d h
  unfold resV
  split
  ·rename_i r hr
   obtain ⟨k, hk, e⟩ := zrw hr
   unfold fndC at e
   split at e
   ·cases e
   ·rcases h k with h | h
    ·cases hv : V k with
     | none => rw [hv] at e; cases e
     | some r' =>
      rw [hv] at e h
      cases e
      simp [optL] at h ⊢
      omega
    ·rw [h] at e; cases e
  ·split <;> simp [optL]
 intro d
 induction d with
 | zero => intro p; exact key p _ 0 fun k => .inr rfl
 | succ d ih => intro p; exact key p _ (d + 1) fun k => .inl (by have := ih (p ++ [(k : Int)]); omega)
theorem fndX (l : List DtCall) (hs : szS DtCall.sz l ≤ 1048576) : ∀ (d : Nat) (p : List Int), p.Nodup → (∀ x ∈ p, 0 ≤ x ∧ x < (l.length : Int)) → l.length = p.length + d → FndX l p (fndI l d p) := by
 have ⟨hl, hm⟩ := znh l hs
 intro d
 induction d with
 | zero =>
  intro p hn hr hd
  exact fndStep l hs p _ (fun k => by simp [optL]) fun k hk hp => absurd (all_in hn hr (by omega) k hk) hp
 | succ d ih =>
  intro p hn hr hd
  refine fndStep l hs p _ (fun k => by have := zv7 l d (p ++ [(k : Int)]); omega) fun k hk hp => ih _ ?_ ?_ (by simp; omega)
  ·exact List.nodup_append.2 ⟨hn, by simp, fun a ha b hb => by rw [List.mem_singleton] at hb; subst hb; exact fun e => hp (e ▸ ha)⟩
  ·intro x hx
   rcases List.mem_append.1 hx with hx | hx
   ·exact hr x hx
   ·rw [List.mem_singleton.1 hx]; omega
theorem fitX (l : List DtCall) (hs : szS DtCall.sz l ≤ 1048576) : ∀ (d : Nat) (p : List Int), (∀ x ∈ p, 0 ≤ x ∧ x < (l.length : Int)) → l.length = p.length + d → FitX l p (fitI l d p) := by
 intro d
 induction d with
 | zero =>
  intro p hr hd
  exact fitStep l hs p hr (by omega) _ fun hne => absurd (by omega) hne
 | succ d ih =>
  intro p hr hd
  refine fitStep l hs p hr (by omega) _ fun hne k hk hp => ih _ ?_ (by simp; omega)
  intro x hx
  rcases List.mem_append.1 hx with hx | hx
  ·exact hr x hx
  ·rw [List.mem_singleton.1 hx]; omega
attribute [local simp] st0S aAppC aAppZ
attribute [-simp] zv5 zng zl4 znm cI cB
noncomputable def linI (l : List DtCall) : Option (List Int) := if decB (CallsP l) = true then fndI l l.length [] else none
theorem linI_len (l : List DtCall) (hl : l.length ≤ 1048576) : (optL (linI l)).length ≤ 1048576 := by
 unfold linI
 split
 ·have := zv7 l l.length []; omega
 ·simp [optL]
theorem znn (l : List DtCall) (hs : szS DtCall.sz l ≤ 1048576) : XCall Try.prog 41 [.sl 11 (l.map DtCall.cells)] [] (.tup [.arr 16 0 (optL (linI l)).length, (.g (.bool ((linI l).isSome)))]) [] [.own 1 ((optL (linI l)).map cI)] := by
 have hF := fitX l hs l.length [] (by simp) (by simp)
 rw [fit_fnd0, FitX, stP_nil] at hF
 refine zbx Try.func41 (by rfl) (by rfl) (by rw [Try.ntmps41]; exact Nat.le_of_ble_eq_true rfl) rfl (by simp) rfl rfl ?_
 rw [Try.ntmps41]
 refine zgg   ?_
 refine AW_k [(0, _)] ⟨rfl, trivial⟩ ?_
 refine AW_x rfl rfl fun K hK => ?_
 simp (disch := omega)
 repeat' first | (refine ⟨by omega, ?_⟩) | (intro _)
 refine hK _ ?_; clear hK K
 refine zbm ?_
 refine AW_x rfl rfl fun K hK => ?_
 simp (disch := omega)
 repeat' first | (exfalso; omega) | (refine zdi (zbi zc0 zbt) (zl6 l hs) rfl ?_; simp (disch := omega)) | (refine zdj (zl6 l hs) (by rfl) ?_ ?_; (focus (simp (disch := omega) [zbp]; done)); simp (disch := omega)) | (refine ⟨by omega, ?_⟩) | (simp (disch := omega)) | (intro _)
 refine hK _ ?_; clear hK K
 refine zbl rfl (fun hc12 => ?_) (fun hc12 => ?_)
 ·try simp [zba, zbb, zbf, zbd] at hc12
  all_goals
   refine AW_x rfl rfl fun K hK => ?_
   simp (disch := omega)
   repeat' first | (exfalso; omega) | (refine ⟨fun _ => ?_, fun _ => ?_⟩) | (refine ⟨by omega, ?_⟩) | (simp (disch := omega)) | (intro _)
   all_goals (refine hK _ ?_; clear hK K)
   all_goals
    refine zbo (zcb [1000] [(1000, 1)] (by simp [List.range_succ, zbc, zbh, zbe]) (by simp) ?_)
    simp (disch := omega)
    all_goals first | (have h1 : linI l = none := (by unfold linI; rw [if_neg (by rw [zba]; assumption)]); rw [h1]; exact ⟨rfl, rfl, rfl⟩) | (have h1 : linI l = fndI l l.length [] := (by unfold linI; rw [if_pos (zcc (by assumption))]); rw [h1]; exact ⟨rfl, rfl, rfl⟩) | trace_state
 ·try simp [zba, zbb, zbf, zbd] at hc12
  all_goals
   refine zbn ?_
   refine zbq ?_
   refine AW_x rfl rfl fun K hK => ?_
   simp (disch := omega)
   repeat' first | (exfalso; omega) | (refine zdl [160] true [] (hF) ?_ ?_ ?_; (focus (simp [List.range_succ, nmC]; done)); (focus (simp (disch := omega) [zbp]; done)); simp (disch := omega)) | (refine ⟨fun _ => ?_, fun _ => ?_⟩) | (refine ⟨by omega, ?_⟩) | (simp (disch := omega)) | (intro _)
   all_goals (refine hK _ ?_; clear hK K)
   all_goals
    refine zbo (zcb [176] [] (by simp [List.range_succ, zbc, zbh, zbe]) (by simp) ?_)
    simp (disch := omega)
    all_goals first | (have h1 : linI l = none := (by unfold linI; rw [if_neg (by rw [zba]; assumption)]); rw [h1]; exact ⟨rfl, rfl, rfl⟩) | (have h1 : linI l = fndI l l.length [] := (by unfold linI; rw [if_pos (zcc (by assumption))]); rw [h1]; exact ⟨rfl, rfl, rfl⟩) | trace_state
theorem zxe (l : List DtCall) (hs : szS DtCall.sz l ≤ 1048576) : XCall Try.prog 40 [.sl 11 (l.map DtCall.cells)] [] (.tup [.arr 16 0 (optL (linI l)).length, (.g (.bool ((linI l).isSome)))]) [] [.own 1 ((optL (linI l)).map cI)] := by
 have ⟨hl, hm⟩ := znh l hs
 have hF := fndX l hs l.length [] (by simp) (by simp) (by simp)
 rw [FndX, stP_nil, seenL_nil] at hF
 refine zbx Try.func40 (by rfl) (by rfl) (by rw [Try.ntmps40]; exact Nat.le_of_ble_eq_true rfl) rfl (by simp) rfl rfl ?_
 rw [Try.ntmps40]
 refine zgg   ?_
 refine AW_k [(0, _)] ⟨rfl, trivial⟩ ?_
 refine AW_x rfl rfl fun K hK => ?_
 simp (disch := omega)
 repeat' first | (refine ⟨by omega, ?_⟩) | (intro _)
 refine hK _ ?_; clear hK K
 refine zbm ?_
 refine AW_x rfl rfl fun K hK => ?_
 simp (disch := omega)
 repeat' first | (exfalso; omega) | (refine zdi (zbi zc0 zbt) (zl5 l hs) rfl ?_; simp (disch := omega)) | (refine zdj (zl5 l hs) (by rfl) ?_ ?_; (focus (simp (disch := omega) [zbp]; done)); simp (disch := omega)) | (refine ⟨by omega, ?_⟩) | (simp (disch := omega)) | (intro _)
 refine hK _ ?_; clear hK K
 refine zbl rfl (fun hc13 => ?_) (fun hc13 => ?_)
 ·try simp [zba, zbb, zbf, zbd] at hc13
  all_goals
   refine AW_x rfl rfl fun K hK => ?_
   simp (disch := omega)
   repeat' first | (exfalso; omega) | (refine ⟨fun _ => ?_, fun _ => ?_⟩) | (refine ⟨by omega, ?_⟩) | (simp (disch := omega)) | (intro _)
   all_goals (refine hK _ ?_; clear hK K)
   all_goals
    refine zbo (zcb [160] [] (by simp [List.range_succ, zbc, zbh, zbe]) (by simp) ?_)
    simp (disch := omega)
    all_goals first | (have h1 : linI l = none := (by unfold linI; rw [if_neg (by rw [zba]; assumption)]); rw [h1]; exact ⟨rfl, rfl, rfl⟩) | (have h1 : linI l = fndI l l.length [] := (by unfold linI; rw [if_pos (zcc (by assumption))]); rw [h1]; exact ⟨rfl, rfl, rfl⟩) | trace_state
 ·try simp [zba, zbb, zbf, zbd] at hc13
  all_goals
   refine zbn ?_
   refine zbq ?_
   refine AW_x rfl rfl fun K hK => ?_
   simp (disch := omega)
   repeat' first | (exfalso; omega) | (refine zdl [] true [] (hF) ?_ ?_ ?_; (focus (simp [List.range_succ, nmC]; done)); (focus (simp (disch := omega) [zbp]; done)); simp (disch := omega)) | (refine ⟨fun _ => ?_, fun _ => ?_⟩) | (refine ⟨by omega, ?_⟩) | (simp (disch := omega)) | (intro _)
   all_goals (refine hK _ ?_; clear hK K)
   all_goals
    refine AW_x rfl rfl fun K hK => ?_
    simp (disch := omega)
    repeat' first | (refine ⟨by omega, ?_⟩) | (intro _)
    refine hK _ ?_; clear hK K
    refine zbo (zcb [272] [] (by simp [List.range_succ, zbc, zbh, zbe]) (by simp) ?_)
    simp (disch := omega)
    all_goals first | (have h1 : linI l = none := (by unfold linI; rw [if_neg (by rw [zba]; assumption)]); rw [h1]; exact ⟨rfl, rfl, rfl⟩) | (have h1 : linI l = fndI l l.length [] := (by unfold linI; rw [if_pos (zcc (by assumption))]); rw [h1]; exact ⟨rfl, rfl, rfl⟩) | trace_state
end Go.Proofs.Ytmheohnbkaoipaa.Vs

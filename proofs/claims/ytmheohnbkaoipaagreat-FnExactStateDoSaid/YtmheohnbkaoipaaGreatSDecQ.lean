import Derived.Test.YtmheohnbkaoipaaGreatSPrQ
open Go Go.Proofs Go.Proofs.YtmheohnbkaoipaaGreat.Vs
namespace Go.Proofs.YtmheohnbkaoipaaGreat.Vs
set_option linter.all false
set_option linter.unusedSimpArgs false
set_option linter.unusedVariables false
set_option maxRecDepth 100000
def cB8 (n : Int) : List AV := [.g (.int .u8 n)]
theorem znh : ∀ ns : List Int, numsOf (ns.map cB8) = some ns
 | [] => rfl
 | n :: ns => by
  have := znh ns
  simp only [List.map_cons, cB8, numsOf] at this ⊢
  rw [this]; rfl
theorem zb3 : ∀ (ns : List Int) (m : Int), numsOf (ns.map cB8 ++ [[.g (.int .u8 m)]]) = some (ns ++ [m]) := by
 intro ns m
 have := znh (ns ++ [m])
 simpa [cB8] using this
theorem tk1 (acc : List Int) : List.take acc.length (acc.map cB8) = acc.map cB8 := List.take_of_length_le (by simp)
theorem tk2 (acc : List Int) (y : List AV) : List.take (acc.length + 1) (acc.map cB8 ++ [y]) = acc.map cB8 ++ [y] := List.take_of_length_le (by simp)
theorem zdb {n : Int} (h0 : 0 ≤ n) (h1 : n < 256) : IntKind.u8.wrap n = n := by
 simp [IntKind.wrap, IntKind.bits, IntKind.signed]
 omega
theorem zca (ns : List Int) : (strN ns).length = ns.length := by simp [strN]
theorem td10 (m : Nat) : (m : Int).tdiv 10 = ((m / 10 : Nat) : Int) := by rw [Int.tdiv_eq_ediv_of_nonneg (by omega)]; rfl
theorem tm10 (m : Nat) : (m : Int).tmod 10 = ((m % 10 : Nat) : Int) := by rw [Int.tmod_eq_emod_of_nonneg (by omega)]; rfl
def digN (n : Nat) : List UInt8 := [UInt8.ofNat (48 + n)]
theorem zb6 (n : Nat) : strN [(48 : Int) + (n : Int)] = digN n := by
 unfold strN digN
 simp only [List.map_cons, List.map_nil]
 congr 1
theorem specDec (n : Nat) (hn : n < 10) : PCall Tryz.prog 80 [(.g (.int .i64 ((n : Nat))))] (.s (digN n)) := by
 refine zbu Tryz.func80 (by rfl) (by rfl) (by rw [Tryz.ntmps80]; exact Nat.le_of_ble_eq_true rfl) rfl (by decide) ?_
 rw [Tryz.ntmps80]
 refine AW_k [(0, _)] ⟨rfl, trivial⟩ ?_
 refine AW_r rfl rfl fun K hK => ?_
 simp (disch := omega) [zbi, List.getElem?_eq_getElem, zbr, zdb, aNews, aAppend, aBuildSlice, chunks, tk1, tk2, zb3, numsOf, td10, tm10, zb6, zca]
 repeat' first | (exfalso; omega) | (refine ⟨fun _ => ?_, fun _ => ?_⟩) | (refine ⟨by omega, ?_⟩) | (intro _)
 all_goals (refine hK _ ?_; clear hK K)
 all_goals
  refine zbm ?_
  refine AW_r rfl rfl fun K hK => ?_
  simp (disch := omega) [zbi, List.getElem?_eq_getElem, zbr, zdb, aNews, aAppend, aBuildSlice, chunks, tk1, tk2, zb3, numsOf, td10, tm10, zb6, zca]
  repeat' first | (exfalso; omega) | (refine ⟨fun _ => ?_, fun _ => ?_⟩) | (refine ⟨by omega, ?_⟩) | (intro _)
  all_goals (refine hK _ ?_; clear hK K)
  all_goals
   refine zbl rfl (fun hc1 => ?_) (fun hc1 => ?_)
   ·try simp at hc1
    all_goals
     refine AW_r rfl rfl fun K hK => ?_
     simp (disch := omega) [zbi, List.getElem?_eq_getElem, zbr, zdb, aNews, aAppend, aBuildSlice, chunks, tk1, tk2, zb3, numsOf, td10, tm10, zb6, zca]
     repeat' first | (exfalso; omega) | (refine ⟨fun _ => ?_, fun _ => ?_⟩) | (refine ⟨by omega, ?_⟩) | (intro _)
     all_goals (refine hK _ ?_; clear hK K)
     all_goals
      refine zbo (zb4 ?_)
      simp (disch := omega) [zbi, List.getElem?_eq_getElem, zbr, zdb, aNews, aAppend, aBuildSlice, chunks, tk1, tk2, zb3, numsOf, td10, tm10, zb6, zca]
      all_goals first | (have h0 : n = 0 := (by omega); subst h0; rfl) | (rcases hv with ⟨h, h2⟩ | ⟨h, h2⟩; exfalso; omega; exact h2.symm) | (rcases hv with ⟨h, h2⟩ | ⟨h, h2⟩; exfalso; omega; exact h2) | trace_state
   ·try simp at hc1
    all_goals
     refine zbn ?_
     refine zbq ?_
     refine AW_r rfl rfl fun K hK => ?_
     simp (disch := omega) [zbi, List.getElem?_eq_getElem, zbr, zdb, aNews, aAppend, aBuildSlice, chunks, tk1, tk2, zb3, numsOf, td10, tm10, zb6, zca]
     repeat' first | (exfalso; omega) | (refine ⟨fun _ => ?_, fun _ => ?_⟩) | (refine ⟨by omega, ?_⟩) | (intro _)
     all_goals (refine hK _ ?_; clear hK K)
     all_goals
      refine AW_r rfl rfl fun K hK => ?_
      simp (disch := omega) [zbi, List.getElem?_eq_getElem, zbr, zdb, aNews, aAppend, aBuildSlice, chunks, tk1, tk2, zb3, numsOf, td10, tm10, zb6, zca]
      repeat' first | (exfalso; omega) | (refine ⟨fun _ => ?_, fun _ => ?_⟩) | (refine ⟨by omega, ?_⟩) | (intro _)
      all_goals (refine hK _ ?_; clear hK K)
      all_goals
       refine zbm ?_
       refine zbt ?_
       refine zb5 (fun mM sS => ∃ (o : List UInt8) (m : Nat), mM = m + 1 ∧ ((m = n ∧ o = []) ∨ (m = 0 ∧ o = digN n)) ∧ sS = { env := lkE [(0, (.g (.int .i64 ((m : Nat))))), (3, .s o), (4, (.g (.bool (false))))], ob := lk [] }) ?_ ?_
       ·refine ⟨_, LeS.kr [] [(0, (.g (.int .i64 (((n) : Nat))))), (3, .s ([])), (4, (.g (.bool (false))))] [] (by simp [KpR, renV2, renV, zbe, zbv, zbc, zbj]; try simp; try omega) (by simp [KpOR, renO, renV, zbe, zbc, zbj, zcl]; try rfl) (by rfl) (by rfl) (by simp) (by simp) (by rfl) (by simp [forms]), _, [], n, rfl, ?_, rfl⟩
        ·simp
       ·rintro mM sS ⟨o, m, rfl, hv, rfl⟩
        refine zbm ?_
        refine AW_r rfl rfl fun K hK => ?_
        simp (disch := omega) [zbi, List.getElem?_eq_getElem, zbr, zdb, aNews, aAppend, aBuildSlice, chunks, tk1, tk2, zb3, numsOf, td10, tm10, zb6, zca]
        repeat' first | (exfalso; omega) | (refine ⟨fun _ => ?_, fun _ => ?_⟩) | (refine ⟨by omega, ?_⟩) | (intro _)
        all_goals (refine hK _ ?_; clear hK K)
        all_goals
         refine zbl rfl (fun hc2 => ?_) (fun hc2 => ?_)
         ·try simp at hc2
          all_goals
           have hmn : n = m := by rcases hv with ⟨h, -⟩ | ⟨h, -⟩ <;> omega
           have ho : o = [] := by rcases hv with ⟨-, h⟩ | ⟨h, -⟩; exact h; exfalso; omega
           subst ho
           refine zbn ?_
           refine zbq ?_
           refine zbt ?_
           refine AW_r rfl rfl fun K hK => ?_
           simp (disch := omega) [zbi, List.getElem?_eq_getElem, zbr, zdb, aNews, aAppend, aBuildSlice, chunks, tk1, tk2, zb3, numsOf, td10, tm10, zb6, zca]
           repeat' first | (exfalso; omega) | (refine ⟨fun _ => ?_, fun _ => ?_⟩) | (refine ⟨by omega, ?_⟩) | (intro _)
           all_goals (refine hK _ ?_; clear hK K)
           all_goals
            refine zbm ?_
            refine AW_r rfl rfl fun K hK => ?_
            simp (disch := omega) [zbi, List.getElem?_eq_getElem, zbr, zdb, aNews, aAppend, aBuildSlice, chunks, tk1, tk2, zb3, numsOf, td10, tm10, zb6, zca]
            repeat' first | (exfalso; omega) | (refine ⟨fun _ => ?_, fun _ => ?_⟩) | (refine ⟨by omega, ?_⟩) | (intro _)
            all_goals (refine hK _ ?_; clear hK K)
            all_goals
             refine zbl rfl (fun hc3 => ?_) (fun hc3 => ?_)
             ·try simp at hc3
              all_goals
               refine zc6 rfl rfl fun K hK => ?_
               simp (disch := omega) [zbi, List.getElem?_eq_getElem, zbr, zdb, aNews, aAppend, aBuildSlice, chunks, tk1, tk2, zb3, numsOf, td10, tm10, zb6, zca]
               repeat' first | (exfalso; omega) | (refine ⟨fun _ => ?_, fun _ => ?_⟩) | (refine ⟨by omega, ?_⟩) | (intro _)
               all_goals (refine hK _ ?_; clear hK K)
               all_goals
                refine zbq ?_
                refine AW_r rfl rfl fun K hK => ?_
                simp (disch := omega) [zbi, List.getElem?_eq_getElem, zbr, zdb, aNews, aAppend, aBuildSlice, chunks, tk1, tk2, zb3, numsOf, td10, tm10, zb6, zca]
                repeat' first | (exfalso; omega) | (refine ⟨fun _ => ?_, fun _ => ?_⟩) | (refine ⟨by omega, ?_⟩) | (intro _)
                all_goals (refine hK _ ?_; clear hK K)
                all_goals
                 refine zc6 rfl rfl fun K hK => ?_
                 simp (disch := omega) [zbi, List.getElem?_eq_getElem, zbr, zdb, aNews, aAppend, aBuildSlice, chunks, tk1, tk2, zb3, numsOf, td10, tm10, zb6, zca]
                 repeat' first | (exfalso; omega) | (refine ⟨fun _ => ?_, fun _ => ?_⟩) | (refine ⟨by omega, ?_⟩) | (intro _)
                 all_goals (refine hK _ ?_; clear hK K)
                 all_goals
                  refine ⟨_, LeS.kr [] [(0, (.g (.int .i64 (((m / 10) : Nat))))), (3, .s (digN n)), (4, (.g (.bool (false))))] [] (by simp [KpR, renV2, renV, zbe, zbv, zbc, zbj]; (have e10 : (m : Int) % 10 = n := (by omega); simp [e10, zb6]; try omega)) (by simp [KpOR, renO, renV, zbe, zbc, zbj, zcl]; try rfl) (by rfl) (by rfl) (by simp) (by simp) (by rfl) (by simp [forms]), _, ?_, digN n, m / 10, rfl, ?_, rfl⟩
                  ·omega
                  ·right; exact ⟨by omega, rfl⟩
             ·try simp at hc3
              all_goals
               refine zbn ?_
               refine zbq ?_
               refine AW_r rfl rfl fun K hK => ?_
               simp (disch := omega) [zbi, List.getElem?_eq_getElem, zbr, zdb, aNews, aAppend, aBuildSlice, chunks, tk1, tk2, zb3, numsOf, td10, tm10, zb6, zca]
               repeat' first | (exfalso; omega) | (refine ⟨fun _ => ?_, fun _ => ?_⟩) | (refine ⟨by omega, ?_⟩) | (intro _)
               all_goals (refine hK _ ?_; clear hK K)
               all_goals
                refine zc6 rfl rfl fun K hK => ?_
                simp (disch := omega) [zbi, List.getElem?_eq_getElem, zbr, zdb, aNews, aAppend, aBuildSlice, chunks, tk1, tk2, zb3, numsOf, td10, tm10, zb6, zca]
                repeat' first | (exfalso; omega) | (refine ⟨fun _ => ?_, fun _ => ?_⟩) | (refine ⟨by omega, ?_⟩) | (intro _)
                all_goals (refine hK _ ?_; clear hK K)
                all_goals
                 refine ⟨_, LeS.kr [] [(0, (.g (.int .i64 (((m / 10) : Nat))))), (3, .s (digN n)), (4, (.g (.bool (false))))] [] (by simp [KpR, renV2, renV, zbe, zbv, zbc, zbj]; (have e10 : (m : Int) % 10 = n := (by omega); simp [e10, zb6]; try omega)) (by simp [KpOR, renO, renV, zbe, zbc, zbj, zcl]; try rfl) (by rfl) (by rfl) (by simp) (by simp) (by rfl) (by simp [forms]), _, ?_, digN n, m / 10, rfl, ?_, rfl⟩
                 ·omega
                 ·right; exact ⟨by omega, rfl⟩
         ·try simp at hc2
          all_goals
           refine zb7 ?_
           refine zbq ?_
           refine zbm ?_
           refine AW_r rfl rfl fun K hK => ?_
           simp (disch := omega) [zbi, List.getElem?_eq_getElem, zbr, zdb, aNews, aAppend, aBuildSlice, chunks, tk1, tk2, zb3, numsOf, td10, tm10, zb6, zca]
           repeat' first | (exfalso; omega) | (refine ⟨fun _ => ?_, fun _ => ?_⟩) | (refine ⟨by omega, ?_⟩) | (intro _)
           all_goals (refine hK _ ?_; clear hK K)
           all_goals
            refine zbl rfl (fun hc4 => ?_) (fun hc4 => ?_)
            ·try simp at hc4
             all_goals
              refine AW_r rfl rfl fun K hK => ?_
              simp (disch := omega) [zbi, List.getElem?_eq_getElem, zbr, zdb, aNews, aAppend, aBuildSlice, chunks, tk1, tk2, zb3, numsOf, td10, tm10, zb6, zca]
              repeat' first | (exfalso; omega) | (refine ⟨fun _ => ?_, fun _ => ?_⟩) | (refine ⟨by omega, ?_⟩) | (intro _)
              all_goals (refine hK _ ?_; clear hK K)
              all_goals
               refine zbo (zb4 ?_)
               simp (disch := omega) [zbi, List.getElem?_eq_getElem, zbr, zdb, aNews, aAppend, aBuildSlice, chunks, tk1, tk2, zb3, numsOf, td10, tm10, zb6, zca]
               all_goals first | (have h0 : n = 0 := (by omega); subst h0; rfl) | (rcases hv with ⟨h, h2⟩ | ⟨h, h2⟩; exfalso; omega; exact h2.symm) | (rcases hv with ⟨h, h2⟩ | ⟨h, h2⟩; exfalso; omega; exact h2) | trace_state
            ·try simp at hc4
             all_goals
              refine zbn ?_
              refine zbq ?_
              refine AW_r rfl rfl fun K hK => ?_
              simp (disch := omega) [zbi, List.getElem?_eq_getElem, zbr, zdb, aNews, aAppend, aBuildSlice, chunks, tk1, tk2, zb3, numsOf, td10, tm10, zb6, zca]
              repeat' first | (exfalso; omega) | (refine ⟨fun _ => ?_, fun _ => ?_⟩) | (refine ⟨by omega, ?_⟩) | (intro _)
              all_goals (refine hK _ ?_; clear hK K)
              all_goals
               refine zbo (zb4 ?_)
               simp (disch := omega) [zbi, List.getElem?_eq_getElem, zbr, zdb, aNews, aAppend, aBuildSlice, chunks, tk1, tk2, zb3, numsOf, td10, tm10, zb6, zca]
               all_goals first | (have h0 : n = 0 := (by omega); subst h0; rfl) | (rcases hv with ⟨h, h2⟩ | ⟨h, h2⟩; exfalso; omega; exact h2.symm) | (rcases hv with ⟨h, h2⟩ | ⟨h, h2⟩; exfalso; omega; exact h2) | trace_state
theorem implDec (n : Nat) (hn : n < 10) : PCall Tryz.prog 92 [(.g (.int .i64 ((n : Nat))))] (.s (digN n)) := by
 refine zbu Tryz.func92 (by rfl) (by rfl) (by rw [Tryz.ntmps92]; exact Nat.le_of_ble_eq_true rfl) rfl (by decide) ?_
 rw [Tryz.ntmps92]
 refine AW_k [(0, _)] ⟨rfl, trivial⟩ ?_
 refine AW_r rfl rfl fun K hK => ?_
 simp (disch := omega) [zbi, List.getElem?_eq_getElem, zbr, zdb, aNews, aAppend, aBuildSlice, chunks, tk1, tk2, zb3, numsOf, td10, tm10, zb6, zca]
 repeat' first | (exfalso; omega) | (refine ⟨fun _ => ?_, fun _ => ?_⟩) | (refine ⟨by omega, ?_⟩) | (intro _)
 all_goals (refine hK _ ?_; clear hK K)
 all_goals
  refine zbm ?_
  refine AW_r rfl rfl fun K hK => ?_
  simp (disch := omega) [zbi, List.getElem?_eq_getElem, zbr, zdb, aNews, aAppend, aBuildSlice, chunks, tk1, tk2, zb3, numsOf, td10, tm10, zb6, zca]
  repeat' first | (exfalso; omega) | (refine ⟨fun _ => ?_, fun _ => ?_⟩) | (refine ⟨by omega, ?_⟩) | (intro _)
  all_goals (refine hK _ ?_; clear hK K)
  all_goals
   refine zbl rfl (fun hc5 => ?_) (fun hc5 => ?_)
   ·try simp at hc5
    all_goals
     refine AW_r rfl rfl fun K hK => ?_
     simp (disch := omega) [zbi, List.getElem?_eq_getElem, zbr, zdb, aNews, aAppend, aBuildSlice, chunks, tk1, tk2, zb3, numsOf, td10, tm10, zb6, zca]
     repeat' first | (exfalso; omega) | (refine ⟨fun _ => ?_, fun _ => ?_⟩) | (refine ⟨by omega, ?_⟩) | (intro _)
     all_goals (refine hK _ ?_; clear hK K)
     all_goals
      refine zbo (zb4 ?_)
      simp (disch := omega) [zbi, List.getElem?_eq_getElem, zbr, zdb, aNews, aAppend, aBuildSlice, chunks, tk1, tk2, zb3, numsOf, td10, tm10, zb6, zca, cB8, zb6]
      all_goals first | (have h0 : n = 0 := (by omega); subst h0; rfl) | rfl | trace_state
   ·try simp at hc5
    all_goals
     refine zbn ?_
     refine zbq ?_
     refine AW_r rfl rfl fun K hK => ?_
     simp (disch := omega) [zbi, List.getElem?_eq_getElem, zbr, zdb, aNews, aAppend, aBuildSlice, chunks, tk1, tk2, zb3, numsOf, td10, tm10, zb6, zca]
     repeat' first | (exfalso; omega) | (refine ⟨fun _ => ?_, fun _ => ?_⟩) | (refine ⟨by omega, ?_⟩) | (intro _)
     all_goals (refine hK _ ?_; clear hK K)
     all_goals
      refine zbm ?_
      refine AW_r rfl rfl fun K hK => ?_
      simp (disch := omega) [zbi, List.getElem?_eq_getElem, zbr, zdb, aNews, aAppend, aBuildSlice, chunks, tk1, tk2, zb3, numsOf, td10, tm10, zb6, zca]
      repeat' first | (exfalso; omega) | (refine ⟨fun _ => ?_, fun _ => ?_⟩) | (refine ⟨by omega, ?_⟩) | (intro _)
      all_goals (refine hK _ ?_; clear hK K)
      all_goals
       refine zbt ?_
       refine zb5 (fun mM sS => ∃ (acc : List Int) (m : Nat), mM = m + 1 ∧ ((m = n ∧ acc = []) ∨ (m = 0 ∧ acc = [48 + (n : Int)])) ∧ sS = { env := lkE [(0, (.g (.int .i64 ((n : Nat))))), (3, .arr 176 0 acc.length), (4, (.g (.int .i64 ((m : Nat)))))], ob := lk [(176, .flat 1 (acc.map cB8))] }) ?_ ?_
       ·refine ⟨_, LeS.kr [(176, 176)] [(0, (.g (.int .i64 ((n : Nat))))), (3, .arr 176 0 ([]).length), (4, (.g (.int .i64 (((n) : Nat)))))] [(176, .flat 1 (([]).map cB8))] (by simp [KpR, renV2, renV, zbe, zbv, zbc, zbj, cB8]; try simp; try omega) (by simp [KpOR, renO, renV, zbe, zbc, zbj, zcl, cB8]; try (have e10 : (m : Int) % 10 = n := (by omega); simp [e10, cB8]; try omega)) (by rfl) (by rfl) (by simp) (by simp) (by rfl) (by simp [forms]), _, [], n, rfl, ?_, rfl⟩
        ·simp
       ·rintro mM sS ⟨acc, m, rfl, hv, rfl⟩
        have hal : acc.length ≤ 7 := by rcases hv with ⟨-, h⟩ | ⟨-, h⟩ <;> simp [h]
        refine zbm ?_
        refine AW_r rfl rfl fun K hK => ?_
        simp (disch := omega) [zbi, List.getElem?_eq_getElem, zbr, zdb, aNews, aAppend, aBuildSlice, chunks, tk1, tk2, zb3, numsOf, td10, tm10, zb6, zca]
        repeat' first | (exfalso; omega) | (refine ⟨fun _ => ?_, fun _ => ?_⟩) | (refine ⟨by omega, ?_⟩) | (intro _)
        all_goals (refine hK _ ?_; clear hK K)
        all_goals
         refine zbl rfl (fun hc6 => ?_) (fun hc6 => ?_)
         ·try simp at hc6
          all_goals
           have hmn : n = m := by rcases hv with ⟨h, -⟩ | ⟨h, -⟩ <;> omega
           have ho : acc = [] := by rcases hv with ⟨-, h⟩ | ⟨h, -⟩; exact h; exfalso; omega
           subst ho
           refine zbn ?_
           refine zbq ?_
           refine zbm ?_
           refine zbt ?_
           refine AW_r rfl rfl fun K hK => ?_
           simp (disch := omega) [zbi, List.getElem?_eq_getElem, zbr, zdb, aNews, aAppend, aBuildSlice, chunks, tk1, tk2, zb3, numsOf, td10, tm10, zb6, zca]
           repeat' first | (exfalso; omega) | (refine ⟨fun _ => ?_, fun _ => ?_⟩) | (refine ⟨by omega, ?_⟩) | (intro _)
           all_goals (refine hK _ ?_; clear hK K)
           all_goals
            refine zbm ?_
            refine AW_r rfl rfl fun K hK => ?_
            simp (disch := omega) [zbi, List.getElem?_eq_getElem, zbr, zdb, aNews, aAppend, aBuildSlice, chunks, tk1, tk2, zb3, numsOf, td10, tm10, zb6, zca]
            repeat' first | (exfalso; omega) | (refine ⟨fun _ => ?_, fun _ => ?_⟩) | (refine ⟨by omega, ?_⟩) | (intro _)
            all_goals (refine hK _ ?_; clear hK K)
            all_goals
             refine zbl rfl (fun hc7 => ?_) (fun hc7 => ?_)
             ·try simp at hc7
              all_goals
               refine zc6 rfl rfl fun K hK => ?_
               simp (disch := omega) [zbi, List.getElem?_eq_getElem, zbr, zdb, aNews, aAppend, aBuildSlice, chunks, tk1, tk2, zb3, numsOf, td10, tm10, zb6, zca]
               repeat' first | (exfalso; omega) | (refine ⟨fun _ => ?_, fun _ => ?_⟩) | (refine ⟨by omega, ?_⟩) | (intro _)
               all_goals (refine hK _ ?_; clear hK K)
               all_goals
                refine zbq ?_
                refine zc6 rfl rfl fun K hK => ?_
                simp (disch := omega) [zbi, List.getElem?_eq_getElem, zbr, zdb, aNews, aAppend, aBuildSlice, chunks, tk1, tk2, zb3, numsOf, td10, tm10, zb6, zca]
                repeat' first | (exfalso; omega) | (refine ⟨fun _ => ?_, fun _ => ?_⟩) | (refine ⟨by omega, ?_⟩) | (intro _)
                all_goals (refine hK _ ?_; clear hK K)
                all_goals
                 refine zbq ?_
                 refine zc6 rfl rfl fun K hK => ?_
                 simp (disch := omega) [zbi, List.getElem?_eq_getElem, zbr, zdb, aNews, aAppend, aBuildSlice, chunks, tk1, tk2, zb3, numsOf, td10, tm10, zb6, zca]
                 repeat' first | (exfalso; omega) | (refine ⟨fun _ => ?_, fun _ => ?_⟩) | (refine ⟨by omega, ?_⟩) | (intro _)
                 all_goals (refine hK _ ?_; clear hK K)
                 all_goals
                  refine ⟨_, LeS.kr [(176, 448)] [(0, (.g (.int .i64 ((n : Nat))))), (3, .arr 176 0 ([48 + (n : Int)]).length), (4, (.g (.int .i64 (((m / 10) : Nat)))))] [(176, .flat 1 (([48 + (n : Int)]).map cB8))] (by simp [KpR, renV2, renV, zbe, zbv, zbc, zbj, cB8]; try (have e10 : (m : Int) % 10 = n := (by omega); simp [e10, cB8]; try omega)) (by simp [KpOR, renO, renV, zbe, zbc, zbj, zcl, cB8]; try (have e10 : (m : Int) % 10 = n := (by omega); simp [e10, cB8]; try omega)) (by rfl) (by rfl) (by simp) (by simp) (by rfl) (by simp [forms]), _, ?_, [48 + (n : Int)], m / 10, rfl, ?_, rfl⟩
                  ·omega
                  ·right; exact ⟨by omega, rfl⟩
             ·try simp at hc7
              all_goals
               refine zbn ?_
               refine zbq ?_
               refine zc6 rfl rfl fun K hK => ?_
               simp (disch := omega) [zbi, List.getElem?_eq_getElem, zbr, zdb, aNews, aAppend, aBuildSlice, chunks, tk1, tk2, zb3, numsOf, td10, tm10, zb6, zca]
               repeat' first | (exfalso; omega) | (refine ⟨fun _ => ?_, fun _ => ?_⟩) | (refine ⟨by omega, ?_⟩) | (intro _)
               all_goals (refine hK _ ?_; clear hK K)
               all_goals
                refine zbq ?_
                refine zc6 rfl rfl fun K hK => ?_
                simp (disch := omega) [zbi, List.getElem?_eq_getElem, zbr, zdb, aNews, aAppend, aBuildSlice, chunks, tk1, tk2, zb3, numsOf, td10, tm10, zb6, zca]
                repeat' first | (exfalso; omega) | (refine ⟨fun _ => ?_, fun _ => ?_⟩) | (refine ⟨by omega, ?_⟩) | (intro _)
                all_goals (refine hK _ ?_; clear hK K)
                all_goals
                 refine ⟨_, LeS.kr [(176, 448)] [(0, (.g (.int .i64 ((n : Nat))))), (3, .arr 176 0 ([48 + (n : Int)]).length), (4, (.g (.int .i64 (((m / 10) : Nat)))))] [(176, .flat 1 (([48 + (n : Int)]).map cB8))] (by simp [KpR, renV2, renV, zbe, zbv, zbc, zbj, cB8]; try (have e10 : (m : Int) % 10 = n := (by omega); simp [e10, cB8]; try omega)) (by simp [KpOR, renO, renV, zbe, zbc, zbj, zcl, cB8]; try (have e10 : (m : Int) % 10 = n := (by omega); simp [e10, cB8]; try omega)) (by rfl) (by rfl) (by simp) (by simp) (by rfl) (by simp [forms]), _, ?_, [48 + (n : Int)], m / 10, rfl, ?_, rfl⟩
                 ·omega
                 ·right; exact ⟨by omega, rfl⟩
         ·try simp at hc6
          all_goals
           have hm0 : m = 0 := by omega
           have hacc : acc = [48 + (n : Int)] := by rcases hv with ⟨h, -⟩ | ⟨-, h⟩; exfalso; omega; exact h
           subst hacc
           refine zb7 ?_
           refine zbq ?_
           refine zbm ?_
           refine AW_r rfl rfl fun K hK => ?_
           simp (disch := omega) [zbi, List.getElem?_eq_getElem, zbr, zdb, aNews, aAppend, aBuildSlice, chunks, tk1, tk2, zb3, numsOf, td10, tm10, zb6, zca]
           repeat' first | (exfalso; omega) | (refine ⟨fun _ => ?_, fun _ => ?_⟩) | (refine ⟨by omega, ?_⟩) | (intro _)
           all_goals (refine hK _ ?_; clear hK K)
           all_goals
            refine zbl rfl (fun hc8 => ?_) (fun hc8 => ?_)
            ·try simp at hc8
             all_goals
              refine zc6 rfl rfl fun K hK => ?_
              simp (disch := omega) [zbi, List.getElem?_eq_getElem, zbr, zdb, aNews, aAppend, aBuildSlice, chunks, tk1, tk2, zb3, numsOf, td10, tm10, zb6, zca]
              repeat' first | (exfalso; omega) | (refine ⟨fun _ => ?_, fun _ => ?_⟩) | (refine ⟨by omega, ?_⟩) | (intro _)
              all_goals (refine hK _ ?_; clear hK K)
              all_goals
               refine zbq ?_
               refine zbm ?_
               refine AW_r rfl rfl fun K hK => ?_
               simp (disch := omega) [zbi, List.getElem?_eq_getElem, zbr, zdb, aNews, aAppend, aBuildSlice, chunks, tk1, tk2, zb3, numsOf, td10, tm10, zb6, zca]
               repeat' first | (exfalso; omega) | (refine ⟨fun _ => ?_, fun _ => ?_⟩) | (refine ⟨by omega, ?_⟩) | (intro _)
               all_goals (refine hK _ ?_; clear hK K)
               all_goals
                refine zbt ?_
                refine zb5 (fun mM sS => ∃ (x : Int), mM = 1 ∧ (x = 0) ∧ sS = { env := lkE [(3, .arr 176 0 1), (6, (.g (.int .i64 (x)))), (7, (.g (.int .i64 (0))))], ob := lk [(176, .flat 1 [cB8 (48 + (n : Int))])] }) ?_ ?_
                ·refine ⟨_, LeS.kr [(176, 176)] [(3, .arr 176 0 1), (6, (.g (.int .i64 ((0))))), (7, (.g (.int .i64 (0))))] [(176, .flat 1 [cB8 (48 + (n : Int))])] (by simp [KpR, renV2, renV, zbe, zbv, zbc, zbj, cB8]; try rfl) (by simp [KpOR, renO, renV, zbe, zbc, zbj, zcl, cB8]; try rfl) (by rfl) (by rfl) (by simp) (by simp) (by rfl) (by simp [forms]), _, 0, rfl, ?_, rfl⟩
                 ·simp
                ·rintro mM sS ⟨x, rfl, hx, rfl⟩
                 subst hx
                 refine zbm ?_
                 refine AW_r rfl rfl fun K hK => ?_
                 simp (disch := omega) [zbi, List.getElem?_eq_getElem, zbr, zdb, aNews, aAppend, aBuildSlice, chunks, tk1, tk2, zb3, numsOf, td10, tm10, zb6, zca]
                 repeat' first | (exfalso; omega) | (refine ⟨fun _ => ?_, fun _ => ?_⟩) | (refine ⟨by omega, ?_⟩) | (intro _)
                 all_goals (refine hK _ ?_; clear hK K)
                 all_goals
                  refine zbl rfl (fun hc9 => ?_) (fun hc9 => ?_)
                  ·try simp at hc9
                   all_goals
                    refine zbn ?_
                    refine zbq ?_
                    refine zbm ?_
                    refine zbt ?_
                    refine AW_qe rfl mix (by kernel_rfl) rfl fun K hK => ?_
                    simp (disch := omega) [zbi, List.getElem?_eq_getElem, zbr, zdb, aNews, aAppend, aBuildSlice, chunks, tk1, tk2, zb3, numsOf, td10, tm10, zb6, zca]
                    repeat' first | (exfalso; omega) | (refine ⟨fun _ => ?_, fun _ => ?_⟩) | (refine ⟨by omega, ?_⟩) | (intro _)
                    all_goals (refine hK _ ?_; clear hK K)
                    all_goals
                     refine zbq ?_
                     refine zc6 rfl rfl fun K hK => ?_
                     simp (disch := omega) [zbi, List.getElem?_eq_getElem, zbr, zdb, aNews, aAppend, aBuildSlice, chunks, tk1, tk2, zb3, numsOf, td10, tm10, zb6, zca]
                     repeat' first | (exfalso; omega) | (refine ⟨fun _ => ?_, fun _ => ?_⟩) | (refine ⟨by omega, ?_⟩) | (intro _)
                     all_goals (refine hK _ ?_; clear hK K)
                     all_goals
                      refine ⟨_, LeS.kr [(176, 176)] [(3, .arr 176 0 1), (6, (.g (.int .i64 ((0))))), (7, (.g (.int .i64 (0))))] [(176, .flat 1 [cB8 (48 + (n : Int))])] (by simp [KpR, renV2, renV, zbe, zbv, zbc, zbj, cB8]; try rfl) (by simp [KpOR, renO, renV, zbe, zbc, zbj, zcl, cB8]; try rfl) (by rfl) (by rfl) (by simp) (by simp) (by rfl) (by simp [forms]), _, ?_, 0, rfl, ?_, rfl⟩
                      ·omega
                      ·omega
                  ·try simp at hc9
                   all_goals
                    refine zb7 ?_
                    refine zbq ?_
                    refine AW_r rfl rfl fun K hK => ?_
                    simp (disch := omega) [zbi, List.getElem?_eq_getElem, zbr, zdb, aNews, aAppend, aBuildSlice, chunks, tk1, tk2, zb3, numsOf, td10, tm10, zb6, zca]
                    repeat' first | (exfalso; omega) | (refine ⟨fun _ => ?_, fun _ => ?_⟩) | (refine ⟨by omega, ?_⟩) | (intro _)
                    all_goals (refine hK _ ?_; clear hK K)
                    all_goals
                     refine zbo (zb4 ?_)
                     simp (disch := omega) [zbi, List.getElem?_eq_getElem, zbr, zdb, aNews, aAppend, aBuildSlice, chunks, tk1, tk2, zb3, numsOf, td10, tm10, zb6, zca, cB8, zb6]
                     all_goals first | (have h0 : n = 0 := (by omega); subst h0; rfl) | rfl | trace_state
            ·try simp at hc8
             all_goals
              refine zbn ?_
              refine zbq ?_
              refine zbm ?_
              refine AW_r rfl rfl fun K hK => ?_
              simp (disch := omega) [zbi, List.getElem?_eq_getElem, zbr, zdb, aNews, aAppend, aBuildSlice, chunks, tk1, tk2, zb3, numsOf, td10, tm10, zb6, zca]
              repeat' first | (exfalso; omega) | (refine ⟨fun _ => ?_, fun _ => ?_⟩) | (refine ⟨by omega, ?_⟩) | (intro _)
              all_goals (refine hK _ ?_; clear hK K)
              all_goals
               refine zbt ?_
               refine zb5 (fun mM sS => ∃ (x : Int), mM = 1 ∧ (x = 0) ∧ sS = { env := lkE [(3, .arr 176 0 1), (6, (.g (.int .i64 (x)))), (7, (.g (.int .i64 (0))))], ob := lk [(176, .flat 1 [cB8 (48 + (n : Int))])] }) ?_ ?_
               ·refine ⟨_, LeS.kr [(176, 176)] [(3, .arr 176 0 1), (6, (.g (.int .i64 ((0))))), (7, (.g (.int .i64 (0))))] [(176, .flat 1 [cB8 (48 + (n : Int))])] (by simp [KpR, renV2, renV, zbe, zbv, zbc, zbj, cB8]; try rfl) (by simp [KpOR, renO, renV, zbe, zbc, zbj, zcl, cB8]; try rfl) (by rfl) (by rfl) (by simp) (by simp) (by rfl) (by simp [forms]), _, 0, rfl, ?_, rfl⟩
                ·simp
               ·rintro mM sS ⟨x, rfl, hx, rfl⟩
                subst hx
                refine zbm ?_
                refine AW_r rfl rfl fun K hK => ?_
                simp (disch := omega) [zbi, List.getElem?_eq_getElem, zbr, zdb, aNews, aAppend, aBuildSlice, chunks, tk1, tk2, zb3, numsOf, td10, tm10, zb6, zca]
                repeat' first | (exfalso; omega) | (refine ⟨fun _ => ?_, fun _ => ?_⟩) | (refine ⟨by omega, ?_⟩) | (intro _)
                all_goals (refine hK _ ?_; clear hK K)
                all_goals
                 refine zbl rfl (fun hc10 => ?_) (fun hc10 => ?_)
                 ·try simp at hc10
                  all_goals
                   refine zbn ?_
                   refine zbq ?_
                   refine zbm ?_
                   refine zbt ?_
                   refine AW_qe rfl mix (by kernel_rfl) rfl fun K hK => ?_
                   simp (disch := omega) [zbi, List.getElem?_eq_getElem, zbr, zdb, aNews, aAppend, aBuildSlice, chunks, tk1, tk2, zb3, numsOf, td10, tm10, zb6, zca]
                   repeat' first | (exfalso; omega) | (refine ⟨fun _ => ?_, fun _ => ?_⟩) | (refine ⟨by omega, ?_⟩) | (intro _)
                   all_goals (refine hK _ ?_; clear hK K)
                   all_goals
                    refine zbq ?_
                    refine zc6 rfl rfl fun K hK => ?_
                    simp (disch := omega) [zbi, List.getElem?_eq_getElem, zbr, zdb, aNews, aAppend, aBuildSlice, chunks, tk1, tk2, zb3, numsOf, td10, tm10, zb6, zca]
                    repeat' first | (exfalso; omega) | (refine ⟨fun _ => ?_, fun _ => ?_⟩) | (refine ⟨by omega, ?_⟩) | (intro _)
                    all_goals (refine hK _ ?_; clear hK K)
                    all_goals
                     refine ⟨_, LeS.kr [(176, 176)] [(3, .arr 176 0 1), (6, (.g (.int .i64 ((0))))), (7, (.g (.int .i64 (0))))] [(176, .flat 1 [cB8 (48 + (n : Int))])] (by simp [KpR, renV2, renV, zbe, zbv, zbc, zbj, cB8]; try rfl) (by simp [KpOR, renO, renV, zbe, zbc, zbj, zcl, cB8]; try rfl) (by rfl) (by rfl) (by simp) (by simp) (by rfl) (by simp [forms]), _, ?_, 0, rfl, ?_, rfl⟩
                     ·omega
                     ·omega
                 ·try simp at hc10
                  all_goals
                   refine zb7 ?_
                   refine zbq ?_
                   refine AW_r rfl rfl fun K hK => ?_
                   simp (disch := omega) [zbi, List.getElem?_eq_getElem, zbr, zdb, aNews, aAppend, aBuildSlice, chunks, tk1, tk2, zb3, numsOf, td10, tm10, zb6, zca]
                   repeat' first | (exfalso; omega) | (refine ⟨fun _ => ?_, fun _ => ?_⟩) | (refine ⟨by omega, ?_⟩) | (intro _)
                   all_goals (refine hK _ ?_; clear hK K)
                   all_goals
                    refine zbo (zb4 ?_)
                    simp (disch := omega) [zbi, List.getElem?_eq_getElem, zbr, zdb, aNews, aAppend, aBuildSlice, chunks, tk1, tk2, zb3, numsOf, td10, tm10, zb6, zca, cB8, zb6]
                    all_goals first | (have h0 : n = 0 := (by omega); subst h0; rfl) | rfl | trace_state
end Go.Proofs.YtmheohnbkaoipaaGreat.Vs

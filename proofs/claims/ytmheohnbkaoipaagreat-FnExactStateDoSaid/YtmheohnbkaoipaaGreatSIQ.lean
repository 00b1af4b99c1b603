import Derived.Test.YtmheohnbkaoipaaGreatSDQ
open Go Go.Proofs Go.Proofs.YtmheohnbkaoipaaGreat.Vs
namespace Go.Proofs.YtmheohnbkaoipaaGreat.Vs
set_option linter.all false
set_option linter.unusedSimpArgs false
set_option linter.unusedVariables false
set_option maxRecDepth 100000
theorem del_eq {α : Type} (l : List α) (k : Nat) (h : k < l.length) : List.take ((k : Int) + ((l.length - (k + 1) : Nat) : Int)).toNat (l.take k ++ ((l.drop (k + 1)).take (l.length - (k + 1)) ++ l.drop (k + (l.length - (k + 1))))) = l.take k ++ l.drop (k + 1) := by
 have e : ((k : Int) + ((l.length - (k + 1) : Nat) : Int)).toNat = k + (l.length - (k + 1)) := by omega
 rw [e, List.take_of_length_le (l := l.drop (k + 1)) (by simp), ← List.append_assoc, List.take_append_of_le_length (by simp; omega), List.take_of_length_le (by simp; omega)]
theorem zcs {l : List (List AV)} (h : scR l = true) (k : Nat) : scR (l.take k) = true := List.all_eq_true.2 fun x hx => List.all_eq_true.1 h x (List.mem_of_mem_take hx)
theorem zcz {l : List (List AV)} (h : scR l = true) (k : Nat) : scR (l.drop k) = true := List.all_eq_true.2 fun x hx => List.all_eq_true.1 h x (List.mem_of_mem_drop hx)
theorem zwp (rows : List (List AV)) (hs : scR rows = true) (k : Nat) (hk : k < rows.length) (hl : rows.length ≤ 1048576) : XCall Tryz.prog 62 [.arr 8 0 rows.length, (.g (.int .i64 ((k : Nat)))), (.g (.int .i64 ((k : Nat) + 1)))] [.own 2 rows] (.arr 16 0 (rows.length - 1)) [.dead] [.own 2 (rows.take k ++ rows.drop (k + 1))] := by
 refine zbx Tryz.func62 (by rfl) (by rfl) (by rw [Tryz.ntmps62]; exact Nat.le_of_ble_eq_true rfl) rfl (by simp) rfl rfl ?_
 rw [Tryz.ntmps62]
 refine zh3 (.win 2 rows) (by simp [cvO] <;> assumption) ?_
 refine AW_k [(0, _), (1, _), (2, _)] ⟨rfl, rfl, rfl, trivial⟩ ?_
 refine zlv (sz := 2) (xs := rows) 8 (by simp [zbe, zbc, zbj]) (by omega) fun c0 hc0 => ?_
 refine AW_x rfl rfl fun K hK => ?_
 simp (disch := omega)
 repeat' first | (refine ⟨by omega, ?_⟩) | (intro _)
 refine hK _ ?_; clear hK K
 refine AW_x rfl rfl fun K hK => ?_
 simp (disch := omega)
 repeat' first | (refine ⟨by omega, ?_⟩) | (intro _)
 refine hK _ ?_; clear hK K
 refine zbm ?_
 refine AW_x rfl rfl fun K hK => ?_
 simp (disch := omega)
 repeat' first | (refine ⟨by omega, ?_⟩) | (intro _)
 refine hK _ ?_; clear hK K
 refine zbl rfl (fun hc1 => ?_) (fun hc1 => ?_)
 ·try simp at hc1
  all_goals
   refine AW_x rfl rfl fun K hK => ?_
   simp (disch := omega)
   repeat' first | (exfalso; omega) | (refine ⟨fun _ => ?_, fun _ => ?_⟩) | (refine ⟨by omega, ?_⟩) | (intro _)
   all_goals (refine hK _ ?_; clear hK K)
   all_goals
    refine zbo (zcc [8] [] (by simp [List.range_succ, zbc, zbj, zbe]) (by simp) ?_)
    simp (disch := omega)
    all_goals exact ⟨by omega, zcs hs _, zcz hs _⟩
 ·try simp at hc1
  all_goals
   refine zbn ?_
   refine zbq ?_
   refine AW_x rfl rfl fun K hK => ?_
   simp (disch := omega)
   repeat' first | (exfalso; omega) | (refine ⟨fun _ => ?_, fun _ => ?_⟩) | (refine ⟨by omega, ?_⟩) | (intro _)
   all_goals (refine hK _ ?_; clear hK K)
   all_goals
    refine AW_d rfl mix (by kernel_rfl) (by kernel_rfl) fun K hK => ?_
    simp (disch := omega)
    repeat' first | (refine ⟨by omega, ?_⟩) | (intro _)
    refine hK _ _ (by kernel_rfl) ?_; clear hK K
    refine AW_x rfl rfl fun K hK => ?_
    simp (disch := omega)
    repeat' first | (refine ⟨by omega, ?_⟩) | (intro _)
    refine hK _ ?_; clear hK K
    refine zfk (LeS.cwin (sz := 2) (c0 := c0) (xs := rows.take k ++ rows.drop (k + 1)) 8 (by simp [zbe, zbc, zbj]; exact del_eq rows k hk)) ?_
    refine AW_x rfl rfl fun K hK => ?_
    simp (disch := omega)
    repeat' first | (refine ⟨by omega, ?_⟩) | (intro _)
    refine hK _ ?_; clear hK K
    refine zbo (zcc [8] [] (by simp [List.range_succ, zbc, zbj, zbe]) (by simp) ?_)
    simp (disch := omega)
    all_goals exact ⟨by omega, zcs hs _, zcz hs _⟩
theorem zdf {y : List AV} (hy : ∀ x ∈ y, scal0 x = true) : scR [y] = true := by simp [scR]; exact hy
theorem take_A {α : Type} (A B : List α) (n : Nat) (h : n = A.length) : (A ++ B).take n = A := by subst h; simp
theorem drop_A {α : Type} (A B : List α) (n : Nat) (h : n = A.length) : (A ++ B).drop n = B := by subst h; simp
theorem zhe {α : Type} (l : List α) (k : Nat) (h : k < l.length) : List.take k (List.take (k + 1) l ++ (List.take (l.length - k) (List.drop k l) ++ List.drop (k + 1 + (l.length - k)) l)) = l.take k := by
 rw [List.take_append_of_le_length (by simp; omega), List.take_take, Nat.min_eq_left (by omega)]
theorem zgy {α : Type} (y : α) (n k : Nat) (h : k < n) : List.take (n + 1 - k) [y] = [y] := List.take_of_length_le (by simp; omega)
theorem zhf {α : Type} (l : List α) (k : Nat) (h : k < l.length) : List.drop (k + 1) (List.take (k + 1) l ++ (List.take (l.length - k) (List.drop k l) ++ List.drop (k + 1 + (l.length - k)) l)) = l.drop k := by
 rw [drop_A _ _ _ (by simp; omega), List.take_of_length_le (l := List.drop k l) (by simp), List.drop_eq_nil_of_le (i := k + 1 + (l.length - k)) (by omega), List.append_nil]
theorem ins_q0 {α : Type} (l : List α) (y z : α) (k : Nat) (h : k < l.length) : List.take k (List.take k l ++ List.replicate (l.length + 1 - k) z) ++ (List.take (l.length + 1 - k) [y] ++ List.drop (k + 1) (List.take k l ++ List.replicate (l.length + 1 - k) z)) = (l.take k ++ [y]) ++ List.replicate (l.length - k) z := by
 rw [take_A _ _ _ (by simp; omega), zgy y _ _ h, List.drop_append, List.drop_eq_nil_of_le (by simp; omega)]
 have e : k + 1 - (List.take k l).length = 1 := by simp; omega
 rw [e, List.drop_replicate, show l.length + 1 - k - 1 = l.length - k by omega]
 simp
theorem zhg {α : Type} (l : List α) (y z : α) (k : Nat) (h : k < l.length) : List.take (k + 1) (List.take k (List.take k l ++ List.replicate (l.length + 1 - k) z) ++ (List.take (l.length + 1 - k) [y] ++ List.drop (k + 1) (List.take k l ++ List.replicate (l.length + 1 - k) z))) = l.take k ++ [y] := by
 rw [ins_q0 l y z k h, take_A _ _ _ (by simp; omega)]
theorem zhh {α : Type} (l : List α) (y z : α) (k : Nat) (h : k < l.length) : List.drop (k + 1 + (l.length - k)) (List.take k (List.take k l ++ List.replicate (l.length + 1 - k) z) ++ (List.take (l.length + 1 - k) [y] ++ List.drop (k + 1) (List.take k l ++ List.replicate (l.length + 1 - k) z))) = [] := by
 rw [ins_q0 l y z k h, List.drop_eq_nil_of_le (by simp; omega)]
theorem zhi {α : Type} (l : List α) (k : Nat) : List.take (l.length - k) (List.drop k l) = l.drop k := List.take_of_length_le (by simp)
attribute [local simp] List.range_succ
theorem zwq (rows : List (List AV)) (hs : scR rows = true) (y : List AV) (hy : ∀ x ∈ y, scal0 x = true) (k : Nat) (hk : k ≤ rows.length) (hl : rows.length ≤ 1048576) : XCall Tryz.prog 87 [.arr 8 0 rows.length, (.g (.int .i64 ((k : Nat)))), .arr 9 0 1] [.own 2 rows, .own 2 [y]] (.arr 16 0 (rows.length + 1)) [.dead, .dead] [.own 2 (rows.take k ++ y :: rows.drop k)] := by
 refine zbx Tryz.func87 (by rfl) (by rfl) (by rw [Tryz.ntmps87]; exact Nat.le_of_ble_eq_true rfl) rfl (by simp) rfl rfl ?_
 rw [Tryz.ntmps87]
 refine zzn (.win 2 rows) (.win 2 [y]) (by simp [cvO] <;> assumption) (by simp [cvO] <;> assumption) ?_
 refine AW_k [(0, _), (1, _), (2, _)] ⟨rfl, rfl, rfl, trivial⟩ ?_
 refine AW_x rfl rfl fun K hK => ?_
 simp (disch := omega)
 repeat' first | (refine ⟨by omega, ?_⟩) | (intro _)
 refine hK _ ?_; clear hK K
 refine AW_x rfl rfl fun K hK => ?_
 simp (disch := omega)
 repeat' first | (refine ⟨by omega, ?_⟩) | (intro _)
 refine hK _ ?_; clear hK K
 refine AW_x rfl rfl fun K hK => ?_
 simp (disch := omega)
 repeat' first | (refine ⟨by omega, ?_⟩) | (intro _)
 refine hK _ ?_; clear hK K
 refine zbm ?_
 refine AW_x rfl rfl fun K hK => ?_
 simp (disch := omega)
 repeat' first | (refine ⟨by omega, ?_⟩) | (intro _)
 refine hK _ ?_; clear hK K
 refine zbl rfl (fun hc2 => ?_) (fun hc2 => ?_)
 ·try simp at hc2
  all_goals
   refine AW_x rfl rfl fun K hK => ?_
   simp (disch := omega)
   repeat' first | (exfalso; omega) | (refine ⟨fun _ => ?_, fun _ => ?_⟩) | (refine ⟨by omega, ?_⟩) | (intro _)
   all_goals (refine hK _ ?_; clear hK K)
   all_goals
    refine zbo (zcc [8] [] (by simp [List.range_succ, zbc, zbj, zbe]) (by simp) ?_)
    simp (disch := omega)
    all_goals first | omega | (exfalso; simp_all; done) | (obtain rfl : k = rows.length := (by omega); rw [List.take_of_length_le (by omega), List.drop_eq_nil_of_le (by omega)]; exact ⟨rfl, hs, hy⟩) | (have hkl : k < rows.length := (by omega); rw [zhe rows k hkl, zgy y _ _ hkl, zhf rows k hkl]; exact ⟨rfl, zcs hs _, zdf hy, zcz hs _⟩) | (have hkl : k < rows.length := (by omega); rw [zhg rows y _ k hkl, zhi, zhh rows y _ k hkl]; exact ⟨by simp, by rw [zfe, zcs hs, zdf hy]; rfl, zcz hs _, rfl⟩) | trace_state
 ·try simp at hc2
  all_goals
   refine zbn ?_
   refine zbq ?_
   refine AW_x rfl rfl fun K hK => ?_
   simp (disch := omega)
   repeat' first | (exfalso; omega) | (refine ⟨fun _ => ?_, fun _ => ?_⟩) | (refine ⟨by omega, ?_⟩) | (intro _)
   all_goals (refine hK _ ?_; clear hK K)
   all_goals
    refine zbm ?_
    refine AW_x rfl rfl fun K hK => ?_
    simp (disch := omega)
    repeat' first | (refine ⟨by omega, ?_⟩) | (intro _)
    refine hK _ ?_; clear hK K
    refine zbl rfl (fun hc3 => ?_) (fun hc3 => ?_)
    ·try simp at hc3
     all_goals
      refine AW_x rfl rfl fun K hK => ?_
      simp (disch := omega)
      repeat' first | (exfalso; omega) | (refine ⟨fun _ => ?_, fun _ => ?_⟩) | (refine ⟨by omega, ?_⟩) | (intro _)
      all_goals (refine hK _ ?_; clear hK K)
      all_goals
       refine zbo (zcc [416] [] (by simp [List.range_succ, zbc, zbj, zbe]) (by simp) ?_)
       simp (disch := omega)
       all_goals first | omega | (exfalso; simp_all; done) | (obtain rfl : k = rows.length := (by omega); rw [List.take_of_length_le (by omega), List.drop_eq_nil_of_le (by omega)]; exact ⟨rfl, hs, hy⟩) | (have hkl : k < rows.length := (by omega); rw [zhe rows k hkl, zgy y _ _ hkl, zhf rows k hkl]; exact ⟨rfl, zcs hs _, zdf hy, zcz hs _⟩) | (have hkl : k < rows.length := (by omega); rw [zhg rows y _ k hkl, zhi, zhh rows y _ k hkl]; exact ⟨by simp, by rw [zfe, zcs hs, zdf hy]; rfl, zcz hs _, rfl⟩) | trace_state
    ·try simp at hc3
     all_goals
      refine zbn ?_
      refine zbq ?_
      refine zbm ?_
      refine zlv (sz := 2) (xs := rows) 8 (by simp [zbe, zbc, zbj]) (by omega) fun c0 hc0 => ?_
      refine AW_x rfl rfl fun K hK => ?_
      simp (disch := omega)
      repeat' first | (exfalso; omega) | (refine ⟨fun _ => ?_, fun _ => ?_⟩) | (refine ⟨by omega, ?_⟩) | (intro _)
      all_goals (refine hK _ ?_; clear hK K)
      all_goals
       refine zbl rfl (fun hc4 => ?_) (fun hc4 => ?_)
       ·try simp at hc4
        all_goals
         refine AW_x rfl rfl fun K hK => ?_
         simp (disch := omega)
         repeat' first | (exfalso; omega) | (refine ⟨fun _ => ?_, fun _ => ?_⟩) | (refine ⟨by omega, ?_⟩) | (intro _)
         all_goals (refine hK _ ?_; clear hK K)
         all_goals
          refine zlv (sz := 2) 656 (by simp [zbe, zbc, zbj]; exact rfl) (by simp; omega) fun c1 hc1' => ?_
          have hc1 : rows.length + 1 ≤ c1 := by simp at hc1'; omega
          refine AW_x rfl rfl fun K hK => ?_
          simp (disch := omega)
          repeat' first | (refine ⟨by omega, ?_⟩) | (intro _)
          refine hK _ ?_; clear hK K
          refine AW_d rfl mix (by kernel_rfl) (by kernel_rfl) fun K hK => ?_
          simp (disch := omega)
          repeat' first | (refine ⟨by omega, ?_⟩) | (intro _)
          refine hK _ _ (by kernel_rfl) ?_; clear hK K
          refine zfk (LeS.cwin (sz := 2) (c0 := c1) 656 (by simp [zbe, zbc, zbj]; exact rfl)) ?_
          refine AW_x rfl rfl fun K hK => ?_
          simp (disch := omega)
          repeat' first | (refine ⟨by omega, ?_⟩) | (intro _)
          refine hK _ ?_; clear hK K
          refine zbo (zcc [656] [] (by simp [List.range_succ, zbc, zbj, zbe]) (by simp) ?_)
          simp (disch := omega)
          all_goals first | omega | (exfalso; simp_all; done) | (obtain rfl : k = rows.length := (by omega); rw [List.take_of_length_le (by omega), List.drop_eq_nil_of_le (by omega)]; exact ⟨rfl, hs, hy⟩) | (have hkl : k < rows.length := (by omega); rw [zhe rows k hkl, zgy y _ _ hkl, zhf rows k hkl]; exact ⟨rfl, zcs hs _, zdf hy, zcz hs _⟩) | (have hkl : k < rows.length := (by omega); rw [zhg rows y _ k hkl, zhi, zhh rows y _ k hkl]; exact ⟨by simp, by rw [zfe, zcs hs, zdf hy]; rfl, zcz hs _, rfl⟩) | trace_state
       ·try simp at hc4
        all_goals
         refine zbn ?_
         refine zbq ?_
         refine AW_x rfl rfl fun K hK => ?_
         simp (disch := omega)
         repeat' first | (exfalso; omega) | (refine ⟨fun _ => ?_, fun _ => ?_⟩) | (refine ⟨by omega, ?_⟩) | (intro _)
         all_goals (refine hK _ ?_; clear hK K)
         all_goals
          refine zbm ?_
          refine AW_x rfl rfl fun K hK => ?_
          simp (disch := omega)
          repeat' first | (exfalso; omega) | (refine XKd_o (sz := 2) (xs := [y]) (sz' := 2) (ys := rows) (c := c0) Tryz.f99 33 4 81 _ Tryz.func99 (by rfl) (by rfl) (by kernel_rfl) (by kernel_rfl) (by rfl) (by rfl) ⟨rfl, by decide, by simp [zbe, zbc, zbj], by omega, by simp, by simp [zbe, zbc, zbj], by omega, by omega⟩ ?_; simp (disch := omega)) | (refine ⟨by omega, ?_⟩) | (intro _)
          refine hK _ ?_; clear hK K
          refine zbl rfl (fun hc5 => ?_) (fun hc5 => ?_)
          ·try simp at hc5
           all_goals
            refine AW_d rfl mix (by kernel_rfl) (by kernel_rfl) fun K hK => ?_
            simp (disch := omega)
            repeat' first | (exfalso; omega) | (refine ⟨fun _ => ?_, fun _ => ?_⟩) | (refine ⟨by omega, ?_⟩) | (intro _)
            all_goals (refine hK _ _ (by kernel_rfl) ?_; clear hK K)
            all_goals
             refine AW_x rfl rfl fun K hK => ?_
             simp (disch := omega)
             repeat' first | (refine ⟨by omega, ?_⟩) | (intro _)
             refine hK _ ?_; clear hK K
             refine zfk (LeS.cwin (sz := 2) (c0 := c0) 8 (by simp [zbe, zbc, zbj]; exact rfl)) ?_
             refine AW_x rfl rfl fun K hK => ?_
             simp (disch := omega)
             repeat' first | (refine ⟨by omega, ?_⟩) | (intro _)
             refine hK _ ?_; clear hK K
             refine zbo (zcc [8] [] (by simp [List.range_succ, zbc, zbj, zbe]) (by simp) ?_)
             simp (disch := omega)
             all_goals first | omega | (exfalso; simp_all; done) | (obtain rfl : k = rows.length := (by omega); rw [List.take_of_length_le (by omega), List.drop_eq_nil_of_le (by omega)]; exact ⟨rfl, hs, hy⟩) | (have hkl : k < rows.length := (by omega); rw [zhe rows k hkl, zgy y _ _ hkl, zhf rows k hkl]; exact ⟨rfl, zcs hs _, zdf hy, zcz hs _⟩) | (have hkl : k < rows.length := (by omega); rw [zhg rows y _ k hkl, zhi, zhh rows y _ k hkl]; exact ⟨by simp, by rw [zfe, zcs hs, zdf hy]; rfl, zcz hs _, rfl⟩) | trace_state
          ·try simp at hc5
           all_goals
            refine zbn ?_
            refine zbq ?_
            refine AW_x rfl rfl fun K hK => ?_
            simp (disch := omega)
            repeat' first | (exfalso; omega) | (refine ⟨fun _ => ?_, fun _ => ?_⟩) | (refine ⟨by omega, ?_⟩) | (intro _)
            all_goals (refine hK _ ?_; clear hK K)
            all_goals
             refine AW_x rfl rfl fun K hK => ?_
             simp (disch := omega)
             repeat' first | (exfalso; omega) | (refine ⟨by omega, ?_⟩) | (intro _)
             refine hK _ ?_; clear hK K
             refine AW_x rfl rfl fun K hK => ?_
             simp (disch := omega)
             repeat' first | (refine ⟨by omega, ?_⟩) | (intro _)
             refine hK _ ?_; clear hK K
             refine zbo (zcc [8] [] (by simp [List.range_succ, zbc, zbj, zbe]) (by simp) ?_)
             simp (disch := omega)
             all_goals first | omega | (exfalso; simp_all; done) | (obtain rfl : k = rows.length := (by omega); rw [List.take_of_length_le (by omega), List.drop_eq_nil_of_le (by omega)]; exact ⟨rfl, hs, hy⟩) | (have hkl : k < rows.length := (by omega); rw [zhe rows k hkl, zgy y _ _ hkl, zhf rows k hkl]; exact ⟨rfl, zcs hs _, zdf hy, zcz hs _⟩) | (have hkl : k < rows.length := (by omega); rw [zhg rows y _ k hkl, zhi, zhh rows y _ k hkl]; exact ⟨by simp, by rw [zfe, zcs hs, zdf hy]; rfl, zcz hs _, rfl⟩) | trace_state
theorem zwr (rows : List (List AV)) (hs : scR rows = true) (y : List AV) (hy : ∀ x ∈ y, scal0 x = true) (k : Nat) (hk : k ≤ rows.length) (hl : rows.length ≤ 1048576) : XCall Tryz.prog 32 [.arr 8 0 rows.length, (.g (.int .i64 ((k : Nat)))), .arr 9 0 1] [.own 3 rows, .own 3 [y]] (.arr 16 0 (rows.length + 1)) [.dead, .dead] [.own 3 (rows.take k ++ y :: rows.drop k)] := by
 refine zbx Tryz.func32 (by rfl) (by rfl) (by rw [Tryz.ntmps32]; exact Nat.le_of_ble_eq_true rfl) rfl (by simp) rfl rfl ?_
 rw [Tryz.ntmps32]
 refine zzn (.win 3 rows) (.win 3 [y]) (by simp [cvO] <;> assumption) (by simp [cvO] <;> assumption) ?_
 refine AW_k [(0, _), (1, _), (2, _)] ⟨rfl, rfl, rfl, trivial⟩ ?_
 refine AW_x rfl rfl fun K hK => ?_
 simp (disch := omega)
 repeat' first | (refine ⟨by omega, ?_⟩) | (intro _)
 refine hK _ ?_; clear hK K
 refine AW_x rfl rfl fun K hK => ?_
 simp (disch := omega)
 repeat' first | (refine ⟨by omega, ?_⟩) | (intro _)
 refine hK _ ?_; clear hK K
 refine AW_x rfl rfl fun K hK => ?_
 simp (disch := omega)
 repeat' first | (refine ⟨by omega, ?_⟩) | (intro _)
 refine hK _ ?_; clear hK K
 refine zbm ?_
 refine AW_x rfl rfl fun K hK => ?_
 simp (disch := omega)
 repeat' first | (refine ⟨by omega, ?_⟩) | (intro _)
 refine hK _ ?_; clear hK K
 refine zbl rfl (fun hc6 => ?_) (fun hc6 => ?_)
 ·try simp at hc6
  all_goals
   refine AW_x rfl rfl fun K hK => ?_
   simp (disch := omega)
   repeat' first | (exfalso; omega) | (refine ⟨fun _ => ?_, fun _ => ?_⟩) | (refine ⟨by omega, ?_⟩) | (intro _)
   all_goals (refine hK _ ?_; clear hK K)
   all_goals
    refine zbo (zcc [8] [] (by simp [List.range_succ, zbc, zbj, zbe]) (by simp) ?_)
    simp (disch := omega)
    all_goals first | omega | (exfalso; simp_all; done) | (obtain rfl : k = rows.length := (by omega); rw [List.take_of_length_le (by omega), List.drop_eq_nil_of_le (by omega)]; exact ⟨rfl, hs, hy⟩) | (have hkl : k < rows.length := (by omega); rw [zhe rows k hkl, zgy y _ _ hkl, zhf rows k hkl]; exact ⟨rfl, zcs hs _, zdf hy, zcz hs _⟩) | (have hkl : k < rows.length := (by omega); rw [zhg rows y _ k hkl, zhi, zhh rows y _ k hkl]; exact ⟨by simp, by rw [zfe, zcs hs, zdf hy]; rfl, zcz hs _, rfl⟩) | trace_state
 ·try simp at hc6
  all_goals
   refine zbn ?_
   refine zbq ?_
   refine AW_x rfl rfl fun K hK => ?_
   simp (disch := omega)
   repeat' first | (exfalso; omega) | (refine ⟨fun _ => ?_, fun _ => ?_⟩) | (refine ⟨by omega, ?_⟩) | (intro _)
   all_goals (refine hK _ ?_; clear hK K)
   all_goals
    refine zbm ?_
    refine AW_x rfl rfl fun K hK => ?_
    simp (disch := omega)
    repeat' first | (refine ⟨by omega, ?_⟩) | (intro _)
    refine hK _ ?_; clear hK K
    refine zbl rfl (fun hc7 => ?_) (fun hc7 => ?_)
    ·try simp at hc7
     all_goals
      refine AW_x rfl rfl fun K hK => ?_
      simp (disch := omega)
      repeat' first | (exfalso; omega) | (refine ⟨fun _ => ?_, fun _ => ?_⟩) | (refine ⟨by omega, ?_⟩) | (intro _)
      all_goals (refine hK _ ?_; clear hK K)
      all_goals
       refine zbo (zcc [416] [] (by simp [List.range_succ, zbc, zbj, zbe]) (by simp) ?_)
       simp (disch := omega)
       all_goals first | omega | (exfalso; simp_all; done) | (obtain rfl : k = rows.length := (by omega); rw [List.take_of_length_le (by omega), List.drop_eq_nil_of_le (by omega)]; exact ⟨rfl, hs, hy⟩) | (have hkl : k < rows.length := (by omega); rw [zhe rows k hkl, zgy y _ _ hkl, zhf rows k hkl]; exact ⟨rfl, zcs hs _, zdf hy, zcz hs _⟩) | (have hkl : k < rows.length := (by omega); rw [zhg rows y _ k hkl, zhi, zhh rows y _ k hkl]; exact ⟨by simp, by rw [zfe, zcs hs, zdf hy]; rfl, zcz hs _, rfl⟩) | trace_state
    ·try simp at hc7
     all_goals
      refine zbn ?_
      refine zbq ?_
      refine zbm ?_
      refine zlv (sz := 3) (xs := rows) 8 (by simp [zbe, zbc, zbj]) (by omega) fun c0 hc0 => ?_
      refine AW_x rfl rfl fun K hK => ?_
      simp (disch := omega)
      repeat' first | (exfalso; omega) | (refine ⟨fun _ => ?_, fun _ => ?_⟩) | (refine ⟨by omega, ?_⟩) | (intro _)
      all_goals (refine hK _ ?_; clear hK K)
      all_goals
       refine zbl rfl (fun hc8 => ?_) (fun hc8 => ?_)
       ·try simp at hc8
        all_goals
         refine AW_x rfl rfl fun K hK => ?_
         simp (disch := omega)
         repeat' first | (exfalso; omega) | (refine ⟨fun _ => ?_, fun _ => ?_⟩) | (refine ⟨by omega, ?_⟩) | (intro _)
         all_goals (refine hK _ ?_; clear hK K)
         all_goals
          refine zlv (sz := 3) 656 (by simp [zbe, zbc, zbj]; exact rfl) (by simp; omega) fun c1 hc1' => ?_
          have hc1 : rows.length + 1 ≤ c1 := by simp at hc1'; omega
          refine AW_x rfl rfl fun K hK => ?_
          simp (disch := omega)
          repeat' first | (refine ⟨by omega, ?_⟩) | (intro _)
          refine hK _ ?_; clear hK K
          refine AW_d rfl mix (by kernel_rfl) (by kernel_rfl) fun K hK => ?_
          simp (disch := omega)
          repeat' first | (refine ⟨by omega, ?_⟩) | (intro _)
          refine hK _ _ (by kernel_rfl) ?_; clear hK K
          refine zfk (LeS.cwin (sz := 3) (c0 := c1) 656 (by simp [zbe, zbc, zbj]; exact rfl)) ?_
          refine AW_x rfl rfl fun K hK => ?_
          simp (disch := omega)
          repeat' first | (refine ⟨by omega, ?_⟩) | (intro _)
          refine hK _ ?_; clear hK K
          refine zbo (zcc [656] [] (by simp [List.range_succ, zbc, zbj, zbe]) (by simp) ?_)
          simp (disch := omega)
          all_goals first | omega | (exfalso; simp_all; done) | (obtain rfl : k = rows.length := (by omega); rw [List.take_of_length_le (by omega), List.drop_eq_nil_of_le (by omega)]; exact ⟨rfl, hs, hy⟩) | (have hkl : k < rows.length := (by omega); rw [zhe rows k hkl, zgy y _ _ hkl, zhf rows k hkl]; exact ⟨rfl, zcs hs _, zdf hy, zcz hs _⟩) | (have hkl : k < rows.length := (by omega); rw [zhg rows y _ k hkl, zhi, zhh rows y _ k hkl]; exact ⟨by simp, by rw [zfe, zcs hs, zdf hy]; rfl, zcz hs _, rfl⟩) | trace_state
       ·try simp at hc8
        all_goals
         refine zbn ?_
         refine zbq ?_
         refine AW_x rfl rfl fun K hK => ?_
         simp (disch := omega)
         repeat' first | (exfalso; omega) | (refine ⟨fun _ => ?_, fun _ => ?_⟩) | (refine ⟨by omega, ?_⟩) | (intro _)
         all_goals (refine hK _ ?_; clear hK K)
         all_goals
          refine zbm ?_
          refine AW_x rfl rfl fun K hK => ?_
          simp (disch := omega)
          repeat' first | (exfalso; omega) | (refine XKd_o (sz := 3) (xs := [y]) (sz' := 3) (ys := rows) (c := c0) Tryz.f67 36 4 56 _ Tryz.func67 (by rfl) (by rfl) (by kernel_rfl) (by kernel_rfl) (by rfl) (by rfl) ⟨rfl, by decide, by simp [zbe, zbc, zbj], by omega, by simp, by simp [zbe, zbc, zbj], by omega, by omega⟩ ?_; simp (disch := omega)) | (refine ⟨by omega, ?_⟩) | (intro _)
          refine hK _ ?_; clear hK K
          refine zbl rfl (fun hc9 => ?_) (fun hc9 => ?_)
          ·try simp at hc9
           all_goals
            refine AW_d rfl mix (by kernel_rfl) (by kernel_rfl) fun K hK => ?_
            simp (disch := omega)
            repeat' first | (exfalso; omega) | (refine ⟨fun _ => ?_, fun _ => ?_⟩) | (refine ⟨by omega, ?_⟩) | (intro _)
            all_goals (refine hK _ _ (by kernel_rfl) ?_; clear hK K)
            all_goals
             refine AW_x rfl rfl fun K hK => ?_
             simp (disch := omega)
             repeat' first | (refine ⟨by omega, ?_⟩) | (intro _)
             refine hK _ ?_; clear hK K
             refine zfk (LeS.cwin (sz := 3) (c0 := c0) 8 (by simp [zbe, zbc, zbj]; exact rfl)) ?_
             refine AW_x rfl rfl fun K hK => ?_
             simp (disch := omega)
             repeat' first | (refine ⟨by omega, ?_⟩) | (intro _)
             refine hK _ ?_; clear hK K
             refine zbo (zcc [8] [] (by simp [List.range_succ, zbc, zbj, zbe]) (by simp) ?_)
             simp (disch := omega)
             all_goals first | omega | (exfalso; simp_all; done) | (obtain rfl : k = rows.length := (by omega); rw [List.take_of_length_le (by omega), List.drop_eq_nil_of_le (by omega)]; exact ⟨rfl, hs, hy⟩) | (have hkl : k < rows.length := (by omega); rw [zhe rows k hkl, zgy y _ _ hkl, zhf rows k hkl]; exact ⟨rfl, zcs hs _, zdf hy, zcz hs _⟩) | (have hkl : k < rows.length := (by omega); rw [zhg rows y _ k hkl, zhi, zhh rows y _ k hkl]; exact ⟨by simp, by rw [zfe, zcs hs, zdf hy]; rfl, zcz hs _, rfl⟩) | trace_state
          ·try simp at hc9
           all_goals
            refine zbn ?_
            refine zbq ?_
            refine AW_x rfl rfl fun K hK => ?_
            simp (disch := omega)
            repeat' first | (exfalso; omega) | (refine ⟨fun _ => ?_, fun _ => ?_⟩) | (refine ⟨by omega, ?_⟩) | (intro _)
            all_goals (refine hK _ ?_; clear hK K)
            all_goals
             refine AW_x rfl rfl fun K hK => ?_
             simp (disch := omega)
             repeat' first | (exfalso; omega) | (refine ⟨by omega, ?_⟩) | (intro _)
             refine hK _ ?_; clear hK K
             refine AW_x rfl rfl fun K hK => ?_
             simp (disch := omega)
             repeat' first | (refine ⟨by omega, ?_⟩) | (intro _)
             refine hK _ ?_; clear hK K
             refine zbo (zcc [8] [] (by simp [List.range_succ, zbc, zbj, zbe]) (by simp) ?_)
             simp (disch := omega)
             all_goals first | omega | (exfalso; simp_all; done) | (obtain rfl : k = rows.length := (by omega); rw [List.take_of_length_le (by omega), List.drop_eq_nil_of_le (by omega)]; exact ⟨rfl, hs, hy⟩) | (have hkl : k < rows.length := (by omega); rw [zhe rows k hkl, zgy y _ _ hkl, zhf rows k hkl]; exact ⟨rfl, zcs hs _, zdf hy, zcz hs _⟩) | (have hkl : k < rows.length := (by omega); rw [zhg rows y _ k hkl, zhi, zhh rows y _ k hkl]; exact ⟨by simp, by rw [zfe, zcs hs, zdf hy]; rfl, zcz hs _, rfl⟩) | trace_state
end Go.Proofs.YtmheohnbkaoipaaGreat.Vs

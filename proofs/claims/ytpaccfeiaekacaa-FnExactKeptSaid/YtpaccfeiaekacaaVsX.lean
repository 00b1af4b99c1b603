import Derived.Test.YtpaccfeiaekacaaVsW
namespace Go.Proofs.Ytpaccfeiaekacaa.Vs
set_option linter.unusedVariables false
set_option linter.unusedSimpArgs false
set_option linter.unusedSectionVars false
set_option linter.unnecessarySimpa false
set_option linter.all false
open Go.RowKit
variable {P : Program}
/-! ### What an operation knows of the frame: its operands -/
section env
variable {st st' : St} (hob : st'.ob = st.ob)
include hob
theorem cellsAt_env (x : AV) : cellsAt st' x = cellsAt st x := by unfold cellsAt; rw [hob]
theorem aLoad_env (t : TypeId) (x : AV) : aLoad P st' t x = aLoad P st t x := by unfold aLoad; rw [cellsAt_env hob]
theorem viewCell_env (x : AV) : viewCell st' x = viewCell st x := by unfold viewCell; rw [hob]
theorem viewCells_env : ∀ (l : List AV), viewCells st' l = viewCells st l
  | [] => rfl
  | c :: cs => by unfold viewCells; rw [viewCell_env hob, viewCells_env cs]
theorem frzU_env : ∀ (l : List Nat), frzU st' l = frzU st l
  | [] => rfl
  | n :: r => by unfold frzU; rw [frzU_env r, hob]
theorem aStore_env (t : TypeId) (x v : AV) : aStore P st' t x v = aStore P st t x v := by
  unfold aStore
  simp only [hob, viewCells_env hob, frzU_env hob]
theorem aBuildSlice_env (nm : Nat) (t : TypeId) (len : Nat) (ps : List (Nat × AV)) : aBuildSlice P st' nm t len ps = aBuildSlice P st nm t len ps := by
  unfold aBuildSlice
  simp only [hob, viewCells_env hob, frzU_env hob]
theorem aMakeSlice_env (nm : Nat) (t : TypeId) (l c : AV) : aMakeSlice P nm st' t l c = aMakeSlice P nm st t l c := by
  unfold aMakeSlice
  simp only [hob]
theorem aSlice_env (t : TypeId) (x : AV) (lo hi : Option AV) : aSlice P st' t x lo hi = aSlice P st t x lo hi := by
  unfold aSlice
  simp only [hob]
theorem aIndexAddr_env (t : TypeId) (x i : AV) : aIndexAddr P st' t x i = aIndexAddr P st t x i := by
  unfold aIndexAddr
  simp only [hob]
theorem aNews_env (sz : Nat) (x : AV) : aNews st' sz x = aNews st sz x := by
  unfold aNews
  simp only [hob]
theorem aConv_env (a b : TypeId) (x : AV) : aConv P st' a b x = aConv P st a b x := by
  unfold aConv
  simp only [aNews_env hob]
theorem aBuiltin_env (nm : Nat) (b : Builtin) (ts : List TypeId) (args : List AV) : aBuiltin P st' nm b ts args = aBuiltin P st nm b ts args := by
  unfold aBuiltin aAppend
  simp only [hob, aNews_env hob]
theorem am0_env (ν : Nat → Option Nat) (x y : AV) : am0 st' ν x y = am0 st ν x y := by unfold am0; simp only [hob]
theorem am0s_env (ν : Nat → Option Nat) : ∀ (x y : List AV), am0s st' ν x y = am0s st ν x y
  | [], _ => rfl
  | _ :: _, [] => rfl
  | c :: cs, d :: ds => by unfold am0s; rw [am0_env hob, am0s_env ν cs ds]
theorem am1_env (ν : Nat → Option Nat) (x y : AV) : am1 st' ν x y = am1 st ν x y := by unfold am1; simp only [am0_env hob, am0s_env hob]
theorem am1s_env (ν : Nat → Option Nat) : ∀ (x y : List AV), am1s st' ν x y = am1s st ν x y
  | [], _ => rfl
  | _ :: _, [] => rfl
  | c :: cs, d :: ds => by unfold am1s; rw [am1_env hob, am1s_env ν cs ds]
theorem am2_env (ν : Nat → Option Nat) (x y : AV) : am2 st' ν x y = am2 st ν x y := by unfold am2; simp only [am1_env hob, am1s_env hob]
theorem am2s_env (ν : Nat → Option Nat) : ∀ (x y : List AV), am2s st' ν x y = am2s st ν x y
  | [], _ => rfl
  | _ :: _, [] => rfl
  | c :: cs, d :: ds => by unfold am2s; rw [am2_env hob, am2s_env ν cs ds]
theorem objsR_env (ν : Nat → Option Nat) : ∀ (x : List Nat) (y : List (List AV)), objsR st' ν x y = objsR st ν x y
  | [], _ => rfl
  | _ :: _, [] => rfl
  | c :: cs, d :: ds => by unfold objsR; rw [objsR_env ν cs ds]; simp only [hob, am1s_env hob]
theorem objsW_env (ν : Nat → Option Nat) : ∀ (x : List Nat) (y : List (List AV)), objsW st' ν x y = objsW st ν x y
  | [], _ => rfl
  | _ :: _, [] => rfl
  | c :: cs, d :: ds => by unfold objsW; rw [objsW_env ν cs ds]; simp only [hob, am1s_env hob]
theorem cellN_env : ∀ (x : List Nat), cellN st' x = cellN st x
  | [] => rfl
  | c :: cs => by unfold cellN; rw [cellN_env cs, hob]
theorem GStep_env (f : FuncId) (l : List AV) (v : AV) (u : Ups) : GStep P st' f l v u = GStep P st f l v u := by
  unfold GStep
  simp only [am2s_env hob, objsR_env hob, objsW_env hob, cellN_env hob, frzU_env hob]
omit hob in
theorem parts_env (l : List (Nat × Operand)) (h : ∀ p ∈ l, ev st' p.2 = ev st p.2) : parts st' l = parts st l := by
  unfold parts
  exact List.map_congr_left fun p hp => by rw [h p hp]
theorem aop_env (nm : Nat) (o : Op) (h : ∀ x ∈ o.operands, ev st' x = ev st x) : aop P st' nm o = aop P st nm o := by
  have pairs : ∀ ps : Array (Nat × Operand), (∀ x ∈ ps.map (·.2), ev st' x = ev st x) → parts st' ps.toList = parts st ps.toList := fun ps hp =>
    parts_env _ fun p hm => hp p.2 (Array.mem_map.2 ⟨p, by simpa using hm, rfl⟩)
  cases o with
  | build t ps => simp only [aop]; rw [pairs ps fun x hx => h x (by simpa [Op.operands] using hx)]
  | buildSlice t n ps => simp only [aop]; rw [aBuildSlice_env hob, pairs ps fun x hx => h x (by simpa [Op.operands] using hx)]
  | makeFunc fn first captured =>
    have h1 : first.toList.map (ev st') = first.toList.map (ev st) := List.map_congr_left fun x hx => h x (by simp [Op.operands]; exact .inl (by simpa using hx))
    have h2 : captured.toList.map (ev st') = captured.toList.map (ev st) := List.map_congr_left fun x hx => h x (by simp [Op.operands]; exact .inr (by simpa using hx))
    cases fn <;> simp only [aop, h1, h2]
  | slice t x lo hi mx =>
    cases mx with
    | some m => rfl
    | none =>
      have h1 : ev st' x = ev st x := h x (by simp [Op.operands])
      have h2 : lo.map (ev st') = lo.map (ev st) := by
        cases lo with
        | none => rfl
        | some y => simp only [Option.map_some]; rw [h y (by cases hi <;> simp [Op.operands])]
      have h3 : hi.map (ev st') = hi.map (ev st) := by
        cases hi with
        | none => rfl
        | some y => simp only [Option.map_some]; rw [h y (by cases lo <;> simp [Op.operands])]
      simp only [aop, h1, h2, h3, aSlice_env hob]
  | _ => simp only [Op.operands] at h <;> simp only [aop, hob, aLoad_env hob, aStore_env hob, aIndexAddr_env hob, aMakeSlice_env hob, aConv_env hob] <;> first | rfl | (simp_all; done)
theorem AStep_env {o : Oper} {v : AV} {u : Ups} (h : ∀ x ∈ o.op.operands, ev st' x = ev st x) (hs : AStep P st o v u) : AStep P st' o v u := by
  obtain ⟨dst, op, ty, pos, aft, gd⟩ := o
  unfold AStep at hs ⊢
  cases op with
  | call c =>
    have hargs : c.args.toList.map (ev st') = c.args.toList.map (ev st) := List.map_congr_left fun x hx => h x (by
      have : x ∈ c.args := by simpa using hx
      simp [Op.operands, Call.operands, this])
    simp only at hs ⊢
    cases hc : c.callee with
    | builtin b => rw [hc] at hs; simp only at hs ⊢; rw [aBuiltin_env hob, hargs]; exact hs
    | invoke _ _ => rw [hc] at hs; exact hs
    | value f =>
      rw [hc] at hs
      simp only at hs ⊢
      have hf : ev st' f = ev st f := h f (by simp [Op.operands, Call.operands, hc])
      rw [hf]
      split at hs
      · rename_i fid fst cap he
        rw [GStep_env hob, hargs]
        exact hs
      · exact hs.elim
  | _ => simp only at hs ⊢; rw [aop_env hob]; exact hs; exact h
end env
end Go.Proofs.Ytpaccfeiaekacaa.Vs

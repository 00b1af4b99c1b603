import Derived.Test.YtpaccfeiaekacaaVsL
namespace Go.Proofs.Ytpaccfeiaekacaa.Vs
set_option linter.unusedVariables false
set_option linter.unusedSimpArgs false
set_option linter.unusedSectionVars false
set_option linter.unnecessarySimpa false
set_option linter.all false
open Go.RowKit
variable {P : Program}
section
variable {C : Cx} {st : St} {a : Act} {w : World} {I : Nat → Prop} {β : Beta} {φ : Nat → List Nat}
theorem intBin_sound (hC : Conc C st a w I β φ) {op : BinOp} {k : IntKind} {x y : Int} {v : AV} {c : Prop} {u : Ups} (h : aIntBin op k x y = some (c, v, u)) (hc : c) (t : TypeId) (hs : op ≠ .shl ∧ op ≠ .shr) :
    Good P C st a w (binOp op t (.int k x) (.int k y)) v u := by
  cases op <;> simp only [aIntBin, Option.some.injEq, Prod.mk.injEq, reduceCtorEq] at h <;> (try (exact absurd rfl hs.1)) <;> (try (exact absurd rfl hs.2)) <;> obtain ⟨rfl, rfl, rfl⟩ := h
  · exact good_pure hC (y := .int k (k.wrap (x + y))) (by simp [binOp, Op.intArith]) rfl
  · exact good_pure hC (y := .int k (k.wrap (x - y))) (by simp [binOp, Op.intArith]) rfl
  · exact good_pure hC (y := .int k (k.wrap (x * y))) (by simp [binOp, Op.intArith]) rfl
  · exact good_pure hC (y := .int k (k.wrap (x.tdiv y))) (by simp [binOp, Op.intDiv, hc]) rfl
  · exact good_pure hC (y := .int k (x.tmod y)) (by simp [binOp, Op.intDiv, hc]) rfl
  · exact good_pure hC (y := .int k (k.wrap (BitVec.ofInt k.bits x &&& BitVec.ofInt k.bits y).toNat)) (by simp only [binOp, Op.intBits, ne_eq, not_true_eq_false, if_false]; rfl) rfl
  · exact good_pure hC (y := .int k (k.wrap (BitVec.ofInt k.bits x ||| BitVec.ofInt k.bits y).toNat)) (by simp only [binOp, Op.intBits, ne_eq, not_true_eq_false, if_false]; rfl) rfl
  · exact good_pure hC (y := .int k (k.wrap (BitVec.ofInt k.bits x ^^^ BitVec.ofInt k.bits y).toNat)) (by simp only [binOp, Op.intBits, ne_eq, not_true_eq_false, if_false]; rfl) rfl
  · exact good_pure hC (y := .bool (x == y)) (by simp [binOp, Op.intCmp]) rfl
  · exact good_pure hC (y := .bool (x != y)) (by simp [binOp, Op.intCmp]) rfl
  · exact good_pure hC (y := .bool (decide (x < y))) (by simp [binOp, Op.intCmp]) rfl
  · exact good_pure hC (y := .bool (decide (x ≤ y))) (by simp [binOp, Op.intCmp]) rfl
  · exact good_pure hC (y := .bool (decide (x > y))) (by simp [binOp, Op.intCmp]) rfl
  · exact good_pure hC (y := .bool (decide (x ≥ y))) (by simp [binOp, Op.intCmp]) rfl
theorem strBin_sound (hC : Conc C st a w I β φ) {op : BinOp} {x y : List UInt8} {v : AV} {c : Prop} {u : Ups} (h : aStrBin op x y = some (c, v, u)) (hc : c) (t : TypeId) :
    Good P C st a w (binOp op t (.string ⟨x.toArray⟩) (.string ⟨y.toArray⟩)) v u := by
  have hrun : binOp op t (.string ⟨x.toArray⟩) (.string ⟨y.toArray⟩) = Op.stringOp op ⟨x.toArray⟩ ⟨y.toArray⟩ := by cases op <;> rfl
  rw [hrun]
  cases op <;> simp only [aStrBin, Option.some.injEq, Prod.mk.injEq, reduceCtorEq] at h <;> obtain ⟨rfl, rfl, rfl⟩ := h
  · refine good_pure hC (y := .string (⟨x.toArray⟩ ++ ⟨y.toArray⟩)) ?_ ?_
    · have : ¬ (((x.length + y.length : Nat) : Int) > IntKind.i64.max) := by
        have : IntKind.i64.max = 9223372036854775807 := by decide
        omega
      simp [Op.stringOp, size_of_list] at this ⊢
      omega
    · show Value.string _ = Value.string _
      congr 1
  · exact good_pure hC (y := .bool (x == y)) (by simp [Op.stringOp, toList_of_list]) rfl
  · exact good_pure hC (y := .bool (!(x == y))) (by simp [Op.stringOp, toList_of_list]) rfl
  · exact good_pure hC (y := .bool (Op.bytesLess x y)) (by simp [Op.stringOp, toList_of_list]) rfl
  · exact good_pure hC (y := .bool (Op.bytesLess x y || x == y)) (by simp [Op.stringOp, toList_of_list]) rfl
  · exact good_pure hC (y := .bool (!(Op.bytesLess x y || x == y))) (by simp [Op.stringOp, toList_of_list]) rfl
  · exact good_pure hC (y := .bool (!Op.bytesLess x y)) (by simp [Op.stringOp, toList_of_list]) rfl
theorem boolEq_sound {t : TypeId} (ht : P.underlying t = some .bool) (x y : Bool) : (binOp .eql t (.bool x) (.bool y)).run P w = .ok (.bool (x == y)) w ∧ (binOp .neq t (.bool x) (.bool y)).run P w = .ok (.bool (!(x == y))) w := by
  have h : (Op.equal t (.bool x) (.bool y)).run P w = .ok (x == y) w := by
    unfold Op.equal Op.maxDepth
    rw [show (10000 : Nat) = 9999 + 1 from rfl]
    unfold Op.equalIn
    simp [run_underlying ht]
  constructor <;> simp [binOp, h]
/-- '==' of two integers, two fields of a struct. -/
theorem eq2_spec {t : TypeId} (h : eq2 P t = true) : ∃ f g kf kg i j, P.underlying t = some (.struct #[f, g]) ∧ f.name ≠ "_" ∧ g.name ≠ "_" ∧ f.offset = 0 ∧ g.offset = 1 ∧ P.underlying f.type = some (.int kf) ∧ P.underlying g.type = some (.int kg) ∧
    P.info? f.type = some i ∧ P.info? g.type = some j ∧ P.stoodInHeld t = false ∧ P.eqGuardType P.depth t = false := by
  unfold eq2 at h
  simp only [Bool.and_eq_true, Bool.not_eq_true'] at h
  obtain ⟨⟨h1, h2⟩, h3⟩ := h
  split at h1
  · rename_i fs hu
    split at h1
    · rename_i f g hfs
      simp only [Bool.and_eq_true, bne_iff_ne, beq_iff_eq] at h1
      obtain ⟨⟨⟨⟨h4, h5⟩, h6⟩, h7⟩, h8⟩ := h1
      split at h8
      · rename_i kf kg i j h9 h10 h11 h12
        have : fs = #[f, g] := by apply Array.ext'; exact hfs
        subst this
        exact ⟨f, g, kf, kg, i, j, hu, h4, h5, h6, h7, h9, h10, h11, h12, h2, h3⟩
      · cases h8
    · cases h1
  · cases h1
theorem structEq_sound {t : TypeId} (h : eq2 P t = true) (k l : IntKind) (x y z u : Int) :
    (binOp .eql t (.agg #[.int k x, .int l y]) (.agg #[.int k z, .int l u])).run P w = .ok (.bool (x == z && y == u)) w ∧
    (binOp .neq t (.agg #[.int k x, .int l y]) (.agg #[.int k z, .int l u])).run P w = .ok (.bool (!(x == z && y == u))) w := by
  obtain ⟨f, g, kf, kg, i, j, hu, h1, h2, h3, h4, h5, h6, h7, h8, h9, h10⟩ := eq2_spec h
  have hE : (Op.equal t (.agg #[.int k x, .int l y]) (.agg #[.int k z, .int l u])).run P w = .ok (x == z && y == u) w := by
    have e1 : ∀ (d : Nat) (T : TypeId) (kk : IntKind) (k : IntKind) (p q : Int), P.underlying T = some (.int kk) → (Op.equalIn (d + 1) T (.int k p) (.int k q)).run P w = .ok (p == q) w := by
      intro d T kk k p q hT
      simp [Op.equalIn, run_underlying hT]
    have p1 : ∀ (cs : Array Value) (T : TypeId) (kk : IntKind) (o : Nat) (v : Value), P.underlying T = some (.int kk) → cs[o]? = some v → (part T cs o).run P w = .ok v w := by
      intro cs T kk o v hT hv
      simp [part, isAgg, run_underlying hT, hv]
    have q1 := p1 #[.int k x, .int l y] f.type kf 0 _ h5 rfl
    have q2 := p1 #[.int k z, .int l u] f.type kf 0 _ h5 rfl
    have q3 := p1 #[.int k x, .int l y] g.type kg 1 _ h6 rfl
    have q4 := p1 #[.int k z, .int l u] g.type kg 1 _ h6 rfl
    unfold Op.equal Op.maxDepth
    rw [show (10000 : Nat) = 9998 + 1 + 1 from rfl]
    unfold Op.equalIn
    simp only [Sem.run_bind, run_underlying hu, Result.andThen_ok, run_program, h9]
    simp [h1, h2, h3, h4, q1, q2, q3, q4, e1 9998 f.type kf k x z h5, e1 9998 g.type kg l y u h6]
    by_cases e3 : x = z <;> by_cases e4 : y = u <;> simp [e3, e4]
  constructor
  · simp [binOp, hE]
  · simp [binOp, hE]
end
end Go.Proofs.Ytpaccfeiaekacaa.Vs

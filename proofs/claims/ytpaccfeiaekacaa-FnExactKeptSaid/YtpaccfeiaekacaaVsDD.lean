import Derived.Test.YtpaccfeiaekacaaVsZG
namespace Go.Proofs.Ytpaccfeiaekacaa.Vs
set_option linter.unusedVariables false
set_option linter.unusedSimpArgs false
set_option linter.unusedSectionVars false
set_option linter.unnecessarySimpa false
set_option linter.all false
open Go.RowKit
/-! ### The data, as plain Lean -/
def cI (x : Int) : List AV := [.g (.int .i64 x)]
def cB (x : Bool) : List AV := [.g (.bool x)]
def cS (x : List UInt8) : List AV := [.s x]
noncomputable def eqB {α : Sort _} (a b : α) : Bool := @decide (a = b) (Classical.propDecidable _)
theorem eqB_true {α : Sort _} (a b : α) : (eqB a b = true) = (a = b) := by unfold eqB; simp
theorem eqB_false {α : Sort _} (a b : α) : (eqB a b = false) = ¬ (a = b) := by unfold eqB; simp
theorem eqB_self {α : Sort _} (a : α) : eqB a a = true := by unfold eqB; simp
theorem eqB_of {α : Sort _} {a b : α} (h : a = b) : eqB a b = true := by unfold eqB; simpa using h
theorem eqB_ne {α : Sort _} {a b : α} (h : ¬ a = b) : eqB a b = false := by unfold eqB; simpa using h
def lenZ {α : Type} (l : List α) : Int := l.length
theorem lenZ_nonneg {α : Type} (l : List α) : 0 ≤ lenZ l := by unfold lenZ; omega
def zeroZ {α : Type} (_ : α) : Int := 0
theorem zeroZ_nonneg {α : Type} (a : α) : 0 ≤ zeroZ a := by simp [zeroZ]
def sumZ {α : Type} (f : α → Int) (l : List α) : Int := l.foldr (fun x n => f x + n) 0
def szS {α : Type} (f : α → Int) (l : List α) : Int := l.length + sumZ f l
section
variable {α : Type} {f : α → Int}
theorem sumZ_nil : sumZ f [] = 0 := (rfl)
theorem sumZ_cons (x : α) (xs : List α) : sumZ f (x :: xs) = f x + sumZ f xs := (rfl)
theorem sumZ_nonneg (hf : ∀ x, 0 ≤ f x) : ∀ l, 0 ≤ sumZ f l
  | [] => by simp [sumZ_nil]
  | x :: xs => by rw [sumZ_cons]; have := sumZ_nonneg hf xs; have := hf x; omega
theorem szS_nonneg (hf : ∀ x, 0 ≤ f x) (l : List α) : 0 ≤ szS f l := by have := sumZ_nonneg hf l; unfold szS; omega
theorem sumZ_take (l : List α) (i : Nat) (h : i < l.length) : sumZ f (l.take (i + 1)) = sumZ f (l.take i) + f l[i] := by
  induction l generalizing i with
  | nil => simp at h
  | cons x xs ih =>
    cases i with
    | zero => simp [sumZ_cons, sumZ_nil]
    | succ i =>
      have := ih i (by simpa using h)
      simp only [List.take_succ_cons, sumZ_cons, this, List.getElem_cons_succ]; omega
theorem sumZ_take_le (hf : ∀ x, 0 ≤ f x) (l : List α) (i : Nat) : sumZ f (l.take i) ≤ sumZ f l := by
  induction l generalizing i with
  | nil => simp
  | cons x xs ih =>
    cases i with
    | zero => have := sumZ_nonneg hf (x :: xs); simpa [sumZ_nil] using this
    | succ i => have := ih i; simp only [List.take_succ_cons, sumZ_cons]; omega
theorem sumZ_mem_le (hf : ∀ x, 0 ≤ f x) (l : List α) (x : α) (h : x ∈ l) : f x ≤ sumZ f l := by
  induction l with
  | nil => simp at h
  | cons y ys ih =>
    rw [sumZ_cons]
    have := hf y
    have := sumZ_nonneg hf ys
    rcases List.mem_cons.1 h with rfl | h
    · omega
    · have := ih h; omega
end
def szR (left s : Int) : Int := if left - s < 0 then -1 else left - s
def wfI (x : Int) : Prop := -9223372036854775808 ≤ x ∧ x < 9223372036854775808
def wfB (_ : Bool) : Prop := True
def wfL (x : List UInt8) : Prop := x.length ≤ 9223372036854775807
def wfS {α : Type} (p : α → Prop) (l : List α) : Prop := l.length ≤ 9223372036854775807 ∧ ∀ x ∈ l, p x
theorem row_of {P : Program} {n : Nat} {e : TypeId} {α : Type} {c : α → List AV} {p : α → Prop} (h : ∀ x, shp P n e x → ∃ u, x = c u ∧ p u) : ∀ (xs : List (List AV)), (∀ x ∈ xs, shp P n e x) → ∃ l : List α, xs = l.map c ∧ ∀ u ∈ l, p u
  | [], _ => ⟨[], rfl, by simp⟩
  | x :: xs, hx => by
    obtain ⟨l, rfl, hl⟩ := row_of h xs fun y hy => hx y (by simp [hy])
    obtain ⟨u, rfl, hu⟩ := h x (hx x (by simp))
    exact ⟨u :: l, rfl, by simpa [hu] using hl⟩
theorem of_int {P : Program} {n : Nat} {t : TypeId} (hu : P.underlying t = some (.int .i64)) : ∀ x, shp P n t x → ∃ u, x = cI u ∧ wfI u := by
  intro x hx
  cases n with
  | zero => exact hx.elim
  | succ n =>
    unfold shp at hx
    rw [hu] at hx
    obtain ⟨m, rfl, hm⟩ := hx
    refine ⟨m, rfl, ?_⟩
    simp [Lit.wf, IntKind.min, IntKind.max, IntKind.bits, IntKind.signed] at hm
    unfold wfI
    omega
theorem of_bool {P : Program} {n : Nat} {t : TypeId} (hu : P.underlying t = some .bool) : ∀ x, shp P n t x → ∃ u, x = cB u ∧ wfB u := by
  intro x hx
  cases n with
  | zero => exact hx.elim
  | succ n =>
    unfold shp at hx
    rw [hu] at hx
    obtain ⟨m, rfl⟩ := hx
    exact ⟨m, rfl, trivial⟩
theorem of_str {P : Program} {n : Nat} {t : TypeId} (hu : P.underlying t = some .string) : ∀ x, shp P n t x → ∃ u, x = cS u ∧ wfL u := by
  intro x hx
  cases n with
  | zero => exact hx.elim
  | succ n =>
    unfold shp at hx
    rw [hu] at hx
    obtain ⟨m, rfl, hm⟩ := hx
    exact ⟨m, rfl, hm⟩
theorem of_row {P : Program} {n : Nat} {t e : TypeId} {k : Nat} {α : Type} {c : α → List AV} {p : α → Prop} (hu : P.underlying t = some (.slice e)) (hk : P.cellsOf e = k) (h : ∀ x, shp P n e x → ∃ u, x = c u ∧ p u) : ∀ x, shp P (n + 1) t x → ∃ l : List α, x = [.sl k (l.map c)] ∧ wfS p l := by
  intro x hx
  unfold shp at hx
  rw [hu] at hx
  obtain ⟨xs, rfl, hl, hx⟩ := hx
  obtain ⟨l, rfl, hl2⟩ := row_of h xs hx
  subst hk
  have hl3 : l.length ≤ maxLen := by simpa using hl
  exact ⟨l, rfl, hl3, hl2⟩
theorem len1 {α : Type} {l : List α} (h : l.length = 1) : ∃ a0, l = [a0] := by
  match l, h with
  | [a0], _ => exact ⟨a0, rfl⟩
theorem len2 {α : Type} {l : List α} (h : l.length = 2) : ∃ a0 a1, l = [a0, a1] := by
  match l, h with
  | [a0, a1], _ => exact ⟨a0, a1, rfl⟩
theorem len3 {α : Type} {l : List α} (h : l.length = 3) : ∃ a0 a1 a2, l = [a0, a1, a2] := by
  match l, h with
  | [a0, a1, a2], _ => exact ⟨a0, a1, a2, rfl⟩
theorem len4 {α : Type} {l : List α} (h : l.length = 4) : ∃ a0 a1 a2 a3, l = [a0, a1, a2, a3] := by
  match l, h with
  | [a0, a1, a2, a3], _ => exact ⟨a0, a1, a2, a3, rfl⟩
theorem len8 {α : Type} {l : List α} (h : l.length = 8) : ∃ a0 a1 a2 a3 a4 a5 a6 a7, l = [a0, a1, a2, a3, a4, a5, a6, a7] := by
  match l, h with
  | [a0, a1, a2, a3, a4, a5, a6, a7], _ => exact ⟨a0, a1, a2, a3, a4, a5, a6, a7, rfl⟩
theorem len11 {α : Type} {l : List α} (h : l.length = 11) : ∃ a0 a1 a2 a3 a4 a5 a6 a7 a8 a9 a10, l = [a0, a1, a2, a3, a4, a5, a6, a7, a8, a9, a10] := by
  match l, h with
  | [a0, a1, a2, a3, a4, a5, a6, a7, a8, a9, a10], _ => exact ⟨a0, a1, a2, a3, a4, a5, a6, a7, a8, a9, a10, rfl⟩
theorem len13 {α : Type} {l : List α} (h : l.length = 13) : ∃ a0 a1 a2 a3 a4 a5 a6 a7 a8 a9 a10 a11 a12, l = [a0, a1, a2, a3, a4, a5, a6, a7, a8, a9, a10, a11, a12] := by
  match l, h with
  | [a0, a1, a2, a3, a4, a5, a6, a7, a8, a9, a10, a11, a12], _ => exact ⟨a0, a1, a2, a3, a4, a5, a6, a7, a8, a9, a10, a11, a12, rfl⟩
theorem len16 {α : Type} {l : List α} (h : l.length = 16) : ∃ a0 a1 a2 a3 a4 a5 a6 a7 a8 a9 a10 a11 a12 a13 a14 a15, l = [a0, a1, a2, a3, a4, a5, a6, a7, a8, a9, a10, a11, a12, a13, a14, a15] := by
  match l, h with
  | [a0, a1, a2, a3, a4, a5, a6, a7, a8, a9, a10, a11, a12, a13, a14, a15], _ => exact ⟨a0, a1, a2, a3, a4, a5, a6, a7, a8, a9, a10, a11, a12, a13, a14, a15, rfl⟩
theorem len19 {α : Type} {l : List α} (h : l.length = 19) : ∃ a0 a1 a2 a3 a4 a5 a6 a7 a8 a9 a10 a11 a12 a13 a14 a15 a16 a17 a18, l = [a0, a1, a2, a3, a4, a5, a6, a7, a8, a9, a10, a11, a12, a13, a14, a15, a16, a17, a18] := by
  match l, h with
  | [a0, a1, a2, a3, a4, a5, a6, a7, a8, a9, a10, a11, a12, a13, a14, a15, a16, a17, a18], _ => exact ⟨a0, a1, a2, a3, a4, a5, a6, a7, a8, a9, a10, a11, a12, a13, a14, a15, a16, a17, a18, rfl⟩
structure DtCmd where
  fKind : Int
  fClient : Int
  fNo : Int
  fSet : List UInt8
  fName : List UInt8
  fTag : List UInt8
  fN : Int
  fChunks : List (List UInt8)
def DtCmd.cells (u : DtCmd) : List AV := [.g (.int .i64 u.fKind), .g (.int .i64 u.fClient), .g (.int .i64 u.fNo), .s u.fSet, .s u.fName, .s u.fTag, .g (.int .i64 u.fN), .sl 1 (u.fChunks.map cS)]
def DtCmd.sz (u : DtCmd) : Int := (u.fSet.length : Int) + (u.fName.length : Int) + (u.fTag.length : Int) + szS lenZ u.fChunks
theorem DtCmd.sz_nonneg (u : DtCmd) : 0 ≤ DtCmd.sz u := by
  unfold DtCmd.sz
  have := (szS_nonneg lenZ_nonneg) u.fChunks
  omega
def DtCmd.wf (u : DtCmd) : Prop := wfI u.fKind ∧ wfI u.fClient ∧ wfI u.fNo ∧ wfL u.fSet ∧ wfL u.fName ∧ wfL u.fTag ∧ wfI u.fN ∧ (wfS wfL) u.fChunks
theorem DtCmd.ext_iff (u v : DtCmd) : (u = v) = (u.fKind = v.fKind ∧ u.fClient = v.fClient ∧ u.fNo = v.fNo ∧ u.fSet = v.fSet ∧ u.fName = v.fName ∧ u.fTag = v.fTag ∧ u.fN = v.fN ∧ u.fChunks = v.fChunks) := by cases u; cases v; simp
theorem DtCmd.cells_len (u : DtCmd) : (DtCmd.cells u).length = 8 := (rfl)
structure DtSeg where
  fFirst : Int
  fText : List UInt8
def DtSeg.cells (u : DtSeg) : List AV := [.g (.int .i64 u.fFirst), .s u.fText]
def DtSeg.sz (u : DtSeg) : Int := (u.fText.length : Int)
theorem DtSeg.sz_nonneg (u : DtSeg) : 0 ≤ DtSeg.sz u := by
  unfold DtSeg.sz
  omega
def DtSeg.wf (u : DtSeg) : Prop := wfI u.fFirst ∧ wfL u.fText
theorem DtSeg.ext_iff (u v : DtSeg) : (u = v) = (u.fFirst = v.fFirst ∧ u.fText = v.fText) := by cases u; cases v; simp
theorem DtSeg.cells_len (u : DtSeg) : (DtSeg.cells u).length = 2 := (rfl)
structure DtLog where
  fSegs : List DtSeg
  fNext : Int
  fMark : Int
def DtLog.cells (u : DtLog) : List AV := [.sl 2 (u.fSegs.map DtSeg.cells), .g (.int .i64 u.fNext), .g (.int .i64 u.fMark)]
def DtLog.sz (u : DtLog) : Int := szS DtSeg.sz u.fSegs
theorem DtLog.sz_nonneg (u : DtLog) : 0 ≤ DtLog.sz u := by
  unfold DtLog.sz
  have := (szS_nonneg DtSeg.sz_nonneg) u.fSegs
  omega
def DtLog.wf (u : DtLog) : Prop := (wfS DtSeg.wf) u.fSegs ∧ wfI u.fNext ∧ wfI u.fMark
theorem DtLog.ext_iff (u v : DtLog) : (u = v) = (u.fSegs = v.fSegs ∧ u.fNext = v.fNext ∧ u.fMark = v.fMark) := by cases u; cases v; simp
theorem DtLog.cells_len (u : DtLog) : (DtLog.cells u).length = 3 := (rfl)
structure DtBlob where
  fId : List UInt8
  fData : List UInt8
  fBad : Bool
def DtBlob.cells (u : DtBlob) : List AV := [.s u.fId, .s u.fData, .g (.bool u.fBad)]
def DtBlob.sz (u : DtBlob) : Int := (u.fId.length : Int) + (u.fData.length : Int)
theorem DtBlob.sz_nonneg (u : DtBlob) : 0 ≤ DtBlob.sz u := by
  unfold DtBlob.sz
  omega
def DtBlob.wf (u : DtBlob) : Prop := wfL u.fId ∧ wfL u.fData ∧ wfB u.fBad
theorem DtBlob.ext_iff (u v : DtBlob) : (u = v) = (u.fId = v.fId ∧ u.fData = v.fData ∧ u.fBad = v.fBad) := by cases u; cases v; simp
theorem DtBlob.cells_len (u : DtBlob) : (DtBlob.cells u).length = 3 := (rfl)
structure DtBlobs where
  fQuota : Int
  fList : List DtBlob
def DtBlobs.cells (u : DtBlobs) : List AV := [.g (.int .i64 u.fQuota), .sl 3 (u.fList.map DtBlob.cells)]
def DtBlobs.sz (u : DtBlobs) : Int := szS DtBlob.sz u.fList
theorem DtBlobs.sz_nonneg (u : DtBlobs) : 0 ≤ DtBlobs.sz u := by
  unfold DtBlobs.sz
  have := (szS_nonneg DtBlob.sz_nonneg) u.fList
  omega
def DtBlobs.wf (u : DtBlobs) : Prop := wfI u.fQuota ∧ (wfS DtBlob.wf) u.fList
theorem DtBlobs.ext_iff (u v : DtBlobs) : (u = v) = (u.fQuota = v.fQuota ∧ u.fList = v.fList) := by cases u; cases v; simp
theorem DtBlobs.cells_len (u : DtBlobs) : (DtBlobs.cells u).length = 2 := (rfl)
structure DtId where
  fRep : Int
  fSlot : Int
def DtId.cells (u : DtId) : List AV := [.g (.int .i64 u.fRep), .g (.int .i64 u.fSlot)]
def DtId.sz (_ : DtId) : Int := 0
theorem DtId.sz_nonneg (u : DtId) : 0 ≤ DtId.sz u := by
  unfold DtId.sz
  omega
def DtId.wf (u : DtId) : Prop := wfI u.fRep ∧ wfI u.fSlot
theorem DtId.ext_iff (u v : DtId) : (u = v) = (u.fRep = v.fRep ∧ u.fSlot = v.fSlot) := by cases u; cases v; simp
theorem DtId.cells_len (u : DtId) : (DtId.cells u).length = 2 := (rfl)
structure DtInst where
  fId : DtId
  fBal : Int
  fVBal : Int
  fStatus : Int
  fCmd : DtCmd
  fSeq : Int
  fDeps : List DtId
  fSame : Bool
def DtInst.cells (u : DtInst) : List AV := [.g (.int .i64 u.fId.fRep), .g (.int .i64 u.fId.fSlot), .g (.int .i64 u.fBal), .g (.int .i64 u.fVBal), .g (.int .i64 u.fStatus), .g (.int .i64 u.fCmd.fKind), .g (.int .i64 u.fCmd.fClient), .g (.int .i64 u.fCmd.fNo), .s u.fCmd.fSet, .s u.fCmd.fName, .s u.fCmd.fTag, .g (.int .i64 u.fCmd.fN), .sl 1 (u.fCmd.fChunks.map cS), .g (.int .i64 u.fSeq), .sl 2 (u.fDeps.map DtId.cells), .g (.bool u.fSame)]
def DtInst.sz (u : DtInst) : Int := DtCmd.sz u.fCmd + (u.fDeps.length : Int)
theorem DtInst.sz_nonneg (u : DtInst) : 0 ≤ DtInst.sz u := by
  unfold DtInst.sz
  have := DtCmd.sz_nonneg u.fCmd
  omega
def DtInst.wf (u : DtInst) : Prop := DtId.wf u.fId ∧ wfI u.fBal ∧ wfI u.fVBal ∧ wfI u.fStatus ∧ DtCmd.wf u.fCmd ∧ wfI u.fSeq ∧ (wfS DtId.wf) u.fDeps ∧ wfB u.fSame
theorem DtInst.ext_iff (u v : DtInst) : (u = v) = (u.fId = v.fId ∧ u.fBal = v.fBal ∧ u.fVBal = v.fVBal ∧ u.fStatus = v.fStatus ∧ u.fCmd = v.fCmd ∧ u.fSeq = v.fSeq ∧ u.fDeps = v.fDeps ∧ u.fSame = v.fSame) := by cases u; cases v; simp
theorem DtInst.cells_len (u : DtInst) : (DtInst.cells u).length = 16 := (rfl)
structure DtEMsg where
  fKind : Int
  fFrom : Int
  fTo : Int
  fId : DtId
  fBal : Int
  fCmd : DtCmd
  fSeq : Int
  fDeps : List DtId
  fStatus : Int
  fVBal : Int
  fSame : Bool
def DtEMsg.cells (u : DtEMsg) : List AV := [.g (.int .i64 u.fKind), .g (.int .i64 u.fFrom), .g (.int .i64 u.fTo), .g (.int .i64 u.fId.fRep), .g (.int .i64 u.fId.fSlot), .g (.int .i64 u.fBal), .g (.int .i64 u.fCmd.fKind), .g (.int .i64 u.fCmd.fClient), .g (.int .i64 u.fCmd.fNo), .s u.fCmd.fSet, .s u.fCmd.fName, .s u.fCmd.fTag, .g (.int .i64 u.fCmd.fN), .sl 1 (u.fCmd.fChunks.map cS), .g (.int .i64 u.fSeq), .sl 2 (u.fDeps.map DtId.cells), .g (.int .i64 u.fStatus), .g (.int .i64 u.fVBal), .g (.bool u.fSame)]
def DtEMsg.sz (u : DtEMsg) : Int := DtCmd.sz u.fCmd + (u.fDeps.length : Int)
theorem DtEMsg.sz_nonneg (u : DtEMsg) : 0 ≤ DtEMsg.sz u := by
  unfold DtEMsg.sz
  have := DtCmd.sz_nonneg u.fCmd
  omega
def DtEMsg.wf (u : DtEMsg) : Prop := wfI u.fKind ∧ wfI u.fFrom ∧ wfI u.fTo ∧ DtId.wf u.fId ∧ wfI u.fBal ∧ DtCmd.wf u.fCmd ∧ wfI u.fSeq ∧ (wfS DtId.wf) u.fDeps ∧ wfI u.fStatus ∧ wfI u.fVBal ∧ wfB u.fSame
theorem DtEMsg.ext_iff (u v : DtEMsg) : (u = v) = (u.fKind = v.fKind ∧ u.fFrom = v.fFrom ∧ u.fTo = v.fTo ∧ u.fId = v.fId ∧ u.fBal = v.fBal ∧ u.fCmd = v.fCmd ∧ u.fSeq = v.fSeq ∧ u.fDeps = v.fDeps ∧ u.fStatus = v.fStatus ∧ u.fVBal = v.fVBal ∧ u.fSame = v.fSame) := by cases u; cases v; simp
theorem DtEMsg.cells_len (u : DtEMsg) : (DtEMsg.cells u).length = 19 := (rfl)
structure DtLead where
  fId : DtId
  fBal : Int
  fPhase : Int
  fSeq : Int
  fDeps : List DtId
  fFrom : List Int
  fSame : Bool
def DtLead.cells (u : DtLead) : List AV := [.g (.int .i64 u.fId.fRep), .g (.int .i64 u.fId.fSlot), .g (.int .i64 u.fBal), .g (.int .i64 u.fPhase), .g (.int .i64 u.fSeq), .sl 2 (u.fDeps.map DtId.cells), .sl 1 (u.fFrom.map cI), .g (.bool u.fSame)]
def DtLead.sz (u : DtLead) : Int := (u.fDeps.length : Int) + (u.fFrom.length : Int)
theorem DtLead.sz_nonneg (u : DtLead) : 0 ≤ DtLead.sz u := by
  unfold DtLead.sz
  omega
def DtLead.wf (u : DtLead) : Prop := DtId.wf u.fId ∧ wfI u.fBal ∧ wfI u.fPhase ∧ wfI u.fSeq ∧ (wfS DtId.wf) u.fDeps ∧ (wfS wfI) u.fFrom ∧ wfB u.fSame
theorem DtLead.ext_iff (u v : DtLead) : (u = v) = (u.fId = v.fId ∧ u.fBal = v.fBal ∧ u.fPhase = v.fPhase ∧ u.fSeq = v.fSeq ∧ u.fDeps = v.fDeps ∧ u.fFrom = v.fFrom ∧ u.fSame = v.fSame) := by cases u; cases v; simp
theorem DtLead.cells_len (u : DtLead) : (DtLead.cells u).length = 8 := (rfl)
structure DtENode where
  fMe : Int
  fNext : Int
  fInsts : List DtInst
  fLeads : List DtLead
def DtENode.cells (u : DtENode) : List AV := [.g (.int .i64 u.fMe), .g (.int .i64 u.fNext), .sl 16 (u.fInsts.map DtInst.cells), .sl 8 (u.fLeads.map DtLead.cells)]
def DtENode.sz (u : DtENode) : Int := szS DtInst.sz u.fInsts + szS DtLead.sz u.fLeads
theorem DtENode.sz_nonneg (u : DtENode) : 0 ≤ DtENode.sz u := by
  unfold DtENode.sz
  have := (szS_nonneg DtInst.sz_nonneg) u.fInsts
  have := (szS_nonneg DtLead.sz_nonneg) u.fLeads
  omega
def DtENode.wf (u : DtENode) : Prop := wfI u.fMe ∧ wfI u.fNext ∧ (wfS DtInst.wf) u.fInsts ∧ (wfS DtLead.wf) u.fLeads
theorem DtENode.ext_iff (u v : DtENode) : (u = v) = (u.fMe = v.fMe ∧ u.fNext = v.fNext ∧ u.fInsts = v.fInsts ∧ u.fLeads = v.fLeads) := by cases u; cases v; simp
theorem DtENode.cells_len (u : DtENode) : (DtENode.cells u).length = 4 := (rfl)
structure DtENet where
  fNodes : List DtENode
  fPool : List DtEMsg
def DtENet.cells (u : DtENet) : List AV := [.sl 4 (u.fNodes.map DtENode.cells), .sl 19 (u.fPool.map DtEMsg.cells)]
def DtENet.sz (u : DtENet) : Int := szS DtENode.sz u.fNodes + szS DtEMsg.sz u.fPool
theorem DtENet.sz_nonneg (u : DtENet) : 0 ≤ DtENet.sz u := by
  unfold DtENet.sz
  have := (szS_nonneg DtENode.sz_nonneg) u.fNodes
  have := (szS_nonneg DtEMsg.sz_nonneg) u.fPool
  omega
def DtENet.wf (u : DtENet) : Prop := (wfS DtENode.wf) u.fNodes ∧ (wfS DtEMsg.wf) u.fPool
theorem DtENet.ext_iff (u v : DtENet) : (u = v) = (u.fNodes = v.fNodes ∧ u.fPool = v.fPool) := by cases u; cases v; simp
theorem DtENet.cells_len (u : DtENet) : (DtENet.cells u).length = 2 := (rfl)
structure DtEAct where
  fKind : Int
  fA : Int
  fB : Int
  fId : DtId
  fCmd : DtCmd
def DtEAct.cells (u : DtEAct) : List AV := [.g (.int .i64 u.fKind), .g (.int .i64 u.fA), .g (.int .i64 u.fB), .g (.int .i64 u.fId.fRep), .g (.int .i64 u.fId.fSlot), .g (.int .i64 u.fCmd.fKind), .g (.int .i64 u.fCmd.fClient), .g (.int .i64 u.fCmd.fNo), .s u.fCmd.fSet, .s u.fCmd.fName, .s u.fCmd.fTag, .g (.int .i64 u.fCmd.fN), .sl 1 (u.fCmd.fChunks.map cS)]
def DtEAct.sz (u : DtEAct) : Int := DtCmd.sz u.fCmd
theorem DtEAct.sz_nonneg (u : DtEAct) : 0 ≤ DtEAct.sz u := by
  unfold DtEAct.sz
  have := DtCmd.sz_nonneg u.fCmd
  omega
def DtEAct.wf (u : DtEAct) : Prop := wfI u.fKind ∧ wfI u.fA ∧ wfI u.fB ∧ DtId.wf u.fId ∧ DtCmd.wf u.fCmd
theorem DtEAct.ext_iff (u v : DtEAct) : (u = v) = (u.fKind = v.fKind ∧ u.fA = v.fA ∧ u.fB = v.fB ∧ u.fId = v.fId ∧ u.fCmd = v.fCmd) := by cases u; cases v; simp
theorem DtEAct.cells_len (u : DtEAct) : (DtEAct.cells u).length = 13 := (rfl)
structure DtCSnap where
  fName : List UInt8
  fTag : List UInt8
  fChunks : List (List UInt8)
def DtCSnap.cells (u : DtCSnap) : List AV := [.s u.fName, .s u.fTag, .sl 1 (u.fChunks.map cS)]
def DtCSnap.sz (u : DtCSnap) : Int := (u.fName.length : Int) + (u.fTag.length : Int) + szS lenZ u.fChunks
theorem DtCSnap.sz_nonneg (u : DtCSnap) : 0 ≤ DtCSnap.sz u := by
  unfold DtCSnap.sz
  have := (szS_nonneg lenZ_nonneg) u.fChunks
  omega
def DtCSnap.wf (u : DtCSnap) : Prop := wfL u.fName ∧ wfL u.fTag ∧ (wfS wfL) u.fChunks
theorem DtCSnap.ext_iff (u v : DtCSnap) : (u = v) = (u.fName = v.fName ∧ u.fTag = v.fTag ∧ u.fChunks = v.fChunks) := by cases u; cases v; simp
theorem DtCSnap.cells_len (u : DtCSnap) : (DtCSnap.cells u).length = 3 := (rfl)
structure DtCSet where
  fName : List UInt8
  fSnaps : List DtCSnap
def DtCSet.cells (u : DtCSet) : List AV := [.s u.fName, .sl 3 (u.fSnaps.map DtCSnap.cells)]
def DtCSet.sz (u : DtCSet) : Int := (u.fName.length : Int) + szS DtCSnap.sz u.fSnaps
theorem DtCSet.sz_nonneg (u : DtCSet) : 0 ≤ DtCSet.sz u := by
  unfold DtCSet.sz
  have := (szS_nonneg DtCSnap.sz_nonneg) u.fSnaps
  omega
def DtCSet.wf (u : DtCSet) : Prop := wfL u.fName ∧ (wfS DtCSnap.wf) u.fSnaps
theorem DtCSet.ext_iff (u v : DtCSet) : (u = v) = (u.fName = v.fName ∧ u.fSnaps = v.fSnaps) := by cases u; cases v; simp
theorem DtCSet.cells_len (u : DtCSet) : (DtCSet.cells u).length = 2 := (rfl)
structure DtCatalog where
  fSets : List DtCSet
def DtCatalog.cells (u : DtCatalog) : List AV := [.sl 2 (u.fSets.map DtCSet.cells)]
def DtCatalog.sz (u : DtCatalog) : Int := szS DtCSet.sz u.fSets
theorem DtCatalog.sz_nonneg (u : DtCatalog) : 0 ≤ DtCatalog.sz u := by
  unfold DtCatalog.sz
  have := (szS_nonneg DtCSet.sz_nonneg) u.fSets
  omega
def DtCatalog.wf (u : DtCatalog) : Prop := (wfS DtCSet.wf) u.fSets
theorem DtCatalog.ext_iff (u v : DtCatalog) : (u = v) = (u.fSets = v.fSets) := by cases u; cases v; simp
theorem DtCatalog.cells_len (u : DtCatalog) : (DtCatalog.cells u).length = 1 := (rfl)
structure DtSaid where
  fClient : Int
  fNo : Int
  fText : List UInt8
def DtSaid.cells (u : DtSaid) : List AV := [.g (.int .i64 u.fClient), .g (.int .i64 u.fNo), .s u.fText]
def DtSaid.sz (u : DtSaid) : Int := (u.fText.length : Int)
theorem DtSaid.sz_nonneg (u : DtSaid) : 0 ≤ DtSaid.sz u := by
  unfold DtSaid.sz
  omega
def DtSaid.wf (u : DtSaid) : Prop := wfI u.fClient ∧ wfI u.fNo ∧ wfL u.fText
theorem DtSaid.ext_iff (u v : DtSaid) : (u = v) = (u.fClient = v.fClient ∧ u.fNo = v.fNo ∧ u.fText = v.fText) := by cases u; cases v; simp
theorem DtSaid.cells_len (u : DtSaid) : (DtSaid.cells u).length = 3 := (rfl)
structure DtState where
  fCat : DtCatalog
  fSaid : List DtSaid
def DtState.cells (u : DtState) : List AV := [.sl 2 (u.fCat.fSets.map DtCSet.cells), .sl 3 (u.fSaid.map DtSaid.cells)]
def DtState.sz (u : DtState) : Int := DtCatalog.sz u.fCat + szS DtSaid.sz u.fSaid
theorem DtState.sz_nonneg (u : DtState) : 0 ≤ DtState.sz u := by
  unfold DtState.sz
  have := DtCatalog.sz_nonneg u.fCat
  have := (szS_nonneg DtSaid.sz_nonneg) u.fSaid
  omega
def DtState.wf (u : DtState) : Prop := DtCatalog.wf u.fCat ∧ (wfS DtSaid.wf) u.fSaid
theorem DtState.ext_iff (u v : DtState) : (u = v) = (u.fCat = v.fCat ∧ u.fSaid = v.fSaid) := by cases u; cases v; simp
theorem DtState.cells_len (u : DtState) : (DtState.cells u).length = 2 := (rfl)
structure DtCall where
  fStart : Int
  fEnd : Int
  fCmd : DtCmd
  fText : List UInt8
def DtCall.cells (u : DtCall) : List AV := [.g (.int .i64 u.fStart), .g (.int .i64 u.fEnd), .g (.int .i64 u.fCmd.fKind), .g (.int .i64 u.fCmd.fClient), .g (.int .i64 u.fCmd.fNo), .s u.fCmd.fSet, .s u.fCmd.fName, .s u.fCmd.fTag, .g (.int .i64 u.fCmd.fN), .sl 1 (u.fCmd.fChunks.map cS), .s u.fText]
def DtCall.sz (u : DtCall) : Int := DtCmd.sz u.fCmd + (u.fText.length : Int)
theorem DtCall.sz_nonneg (u : DtCall) : 0 ≤ DtCall.sz u := by
  unfold DtCall.sz
  have := DtCmd.sz_nonneg u.fCmd
  omega
def DtCall.wf (u : DtCall) : Prop := wfI u.fStart ∧ wfI u.fEnd ∧ DtCmd.wf u.fCmd ∧ wfL u.fText
theorem DtCall.ext_iff (u v : DtCall) : (u = v) = (u.fStart = v.fStart ∧ u.fEnd = v.fEnd ∧ u.fCmd = v.fCmd ∧ u.fText = v.fText) := by cases u; cases v; simp
theorem DtCall.cells_len (u : DtCall) : (DtCall.cells u).length = 11 := (rfl)
structure DtUp where
  fChunk : List UInt8
  fNodes : List Int
  fEpoch : Int
def DtUp.cells (u : DtUp) : List AV := [.s u.fChunk, .sl 1 (u.fNodes.map cI), .g (.int .i64 u.fEpoch)]
def DtUp.sz (u : DtUp) : Int := (u.fChunk.length : Int) + (u.fNodes.length : Int)
theorem DtUp.sz_nonneg (u : DtUp) : 0 ≤ DtUp.sz u := by
  unfold DtUp.sz
  omega
def DtUp.wf (u : DtUp) : Prop := wfL u.fChunk ∧ (wfS wfI) u.fNodes ∧ wfI u.fEpoch
theorem DtUp.ext_iff (u v : DtUp) : (u = v) = (u.fChunk = v.fChunk ∧ u.fNodes = v.fNodes ∧ u.fEpoch = v.fEpoch) := by cases u; cases v; simp
theorem DtUp.cells_len (u : DtUp) : (DtUp.cells u).length = 3 := (rfl)
structure DtUps where
  fEpoch : Int
  fList : List DtUp
def DtUps.cells (u : DtUps) : List AV := [.g (.int .i64 u.fEpoch), .sl 3 (u.fList.map DtUp.cells)]
def DtUps.sz (u : DtUps) : Int := szS DtUp.sz u.fList
theorem DtUps.sz_nonneg (u : DtUps) : 0 ≤ DtUps.sz u := by
  unfold DtUps.sz
  have := (szS_nonneg DtUp.sz_nonneg) u.fList
  omega
def DtUps.wf (u : DtUps) : Prop := wfI u.fEpoch ∧ (wfS DtUp.wf) u.fList
theorem DtUps.ext_iff (u v : DtUps) : (u = v) = (u.fEpoch = v.fEpoch ∧ u.fList = v.fList) := by cases u; cases v; simp
theorem DtUps.cells_len (u : DtUps) : (DtUps.cells u).length = 2 := (rfl)
structure DtCopy where
  fChunk : List UInt8
  fFrom : Int
  fTo : Int
def DtCopy.cells (u : DtCopy) : List AV := [.s u.fChunk, .g (.int .i64 u.fFrom), .g (.int .i64 u.fTo)]
def DtCopy.sz (u : DtCopy) : Int := (u.fChunk.length : Int)
theorem DtCopy.sz_nonneg (u : DtCopy) : 0 ≤ DtCopy.sz u := by
  unfold DtCopy.sz
  omega
def DtCopy.wf (u : DtCopy) : Prop := wfL u.fChunk ∧ wfI u.fFrom ∧ wfI u.fTo
theorem DtCopy.ext_iff (u v : DtCopy) : (u = v) = (u.fChunk = v.fChunk ∧ u.fFrom = v.fFrom ∧ u.fTo = v.fTo) := by cases u; cases v; simp
theorem DtCopy.cells_len (u : DtCopy) : (DtCopy.cells u).length = 3 := (rfl)
structure DtRule where
  fLast : Int
  fDays : Int
  fPerDay : Int
def DtRule.cells (u : DtRule) : List AV := [.g (.int .i64 u.fLast), .g (.int .i64 u.fDays), .g (.int .i64 u.fPerDay)]
def DtRule.sz (_ : DtRule) : Int := 0
theorem DtRule.sz_nonneg (u : DtRule) : 0 ≤ DtRule.sz u := by
  unfold DtRule.sz
  omega
def DtRule.wf (u : DtRule) : Prop := wfI u.fLast ∧ wfI u.fDays ∧ wfI u.fPerDay
theorem DtRule.ext_iff (u v : DtRule) : (u = v) = (u.fLast = v.fLast ∧ u.fDays = v.fDays ∧ u.fPerDay = v.fPerDay) := by cases u; cases v; simp
theorem DtRule.cells_len (u : DtRule) : (DtRule.cells u).length = 3 := (rfl)
structure DtRetry where
  fBase : Int
  fCap : Int
  fTries : Int
  fNext : Int
def DtRetry.cells (u : DtRetry) : List AV := [.g (.int .i64 u.fBase), .g (.int .i64 u.fCap), .g (.int .i64 u.fTries), .g (.int .i64 u.fNext)]
def DtRetry.sz (_ : DtRetry) : Int := 0
theorem DtRetry.sz_nonneg (u : DtRetry) : 0 ≤ DtRetry.sz u := by
  unfold DtRetry.sz
  omega
def DtRetry.wf (u : DtRetry) : Prop := wfI u.fBase ∧ wfI u.fCap ∧ wfI u.fTries ∧ wfI u.fNext
theorem DtRetry.ext_iff (u v : DtRetry) : (u = v) = (u.fBase = v.fBase ∧ u.fCap = v.fCap ∧ u.fTries = v.fTries ∧ u.fNext = v.fNext) := by cases u; cases v; simp
theorem DtRetry.cells_len (u : DtRetry) : (DtRetry.cells u).length = 4 := (rfl)
structure DtSess where
  fId : Int
  fClient : Int
  fUntil : Int
  fParts : List (List UInt8)
def DtSess.cells (u : DtSess) : List AV := [.g (.int .i64 u.fId), .g (.int .i64 u.fClient), .g (.int .i64 u.fUntil), .sl 1 (u.fParts.map cS)]
def DtSess.sz (u : DtSess) : Int := szS lenZ u.fParts
theorem DtSess.sz_nonneg (u : DtSess) : 0 ≤ DtSess.sz u := by
  unfold DtSess.sz
  have := (szS_nonneg lenZ_nonneg) u.fParts
  omega
def DtSess.wf (u : DtSess) : Prop := wfI u.fId ∧ wfI u.fClient ∧ wfI u.fUntil ∧ (wfS wfL) u.fParts
theorem DtSess.ext_iff (u v : DtSess) : (u = v) = (u.fId = v.fId ∧ u.fClient = v.fClient ∧ u.fUntil = v.fUntil ∧ u.fParts = v.fParts) := by cases u; cases v; simp
theorem DtSess.cells_len (u : DtSess) : (DtSess.cells u).length = 4 := (rfl)
structure DtDesks where
  fNow : Int
  fNext : Int
  fList : List DtSess
def DtDesks.cells (u : DtDesks) : List AV := [.g (.int .i64 u.fNow), .g (.int .i64 u.fNext), .sl 4 (u.fList.map DtSess.cells)]
def DtDesks.sz (u : DtDesks) : Int := szS DtSess.sz u.fList
theorem DtDesks.sz_nonneg (u : DtDesks) : 0 ≤ DtDesks.sz u := by
  unfold DtDesks.sz
  have := (szS_nonneg DtSess.sz_nonneg) u.fList
  omega
def DtDesks.wf (u : DtDesks) : Prop := wfI u.fNow ∧ wfI u.fNext ∧ (wfS DtSess.wf) u.fList
theorem DtDesks.ext_iff (u v : DtDesks) : (u = v) = (u.fNow = v.fNow ∧ u.fNext = v.fNext ∧ u.fList = v.fList) := by cases u; cases v; simp
theorem DtDesks.cells_len (u : DtDesks) : (DtDesks.cells u).length = 3 := (rfl)
structure DtEntry where
  fPath : List UInt8
  fChunks : List (List UInt8)
def DtEntry.cells (u : DtEntry) : List AV := [.s u.fPath, .sl 1 (u.fChunks.map cS)]
def DtEntry.sz (u : DtEntry) : Int := (u.fPath.length : Int) + szS lenZ u.fChunks
theorem DtEntry.sz_nonneg (u : DtEntry) : 0 ≤ DtEntry.sz u := by
  unfold DtEntry.sz
  have := (szS_nonneg lenZ_nonneg) u.fChunks
  omega
def DtEntry.wf (u : DtEntry) : Prop := wfL u.fPath ∧ (wfS wfL) u.fChunks
theorem DtEntry.ext_iff (u v : DtEntry) : (u = v) = (u.fPath = v.fPath ∧ u.fChunks = v.fChunks) := by cases u; cases v; simp
theorem DtEntry.cells_len (u : DtEntry) : (DtEntry.cells u).length = 2 := (rfl)
structure DtStamp where
  fWall : Int
  fTick : Int
  fNode : Int
def DtStamp.cells (u : DtStamp) : List AV := [.g (.int .i64 u.fWall), .g (.int .i64 u.fTick), .g (.int .i64 u.fNode)]
def DtStamp.sz (_ : DtStamp) : Int := 0
theorem DtStamp.sz_nonneg (u : DtStamp) : 0 ≤ DtStamp.sz u := by
  unfold DtStamp.sz
  omega
def DtStamp.wf (u : DtStamp) : Prop := wfI u.fWall ∧ wfI u.fTick ∧ wfI u.fNode
theorem DtStamp.ext_iff (u v : DtStamp) : (u = v) = (u.fWall = v.fWall ∧ u.fTick = v.fTick ∧ u.fNode = v.fNode) := by cases u; cases v; simp
theorem DtStamp.cells_len (u : DtStamp) : (DtStamp.cells u).length = 3 := (rfl)
structure DtBeat where
  fHeard : List Int
  fWait : List Int
  fAway : List Bool
def DtBeat.cells (u : DtBeat) : List AV := [.sl 1 (u.fHeard.map cI), .sl 1 (u.fWait.map cI), .sl 1 (u.fAway.map cB)]
def DtBeat.sz (u : DtBeat) : Int := (u.fHeard.length : Int) + (u.fWait.length : Int) + (u.fAway.length : Int)
theorem DtBeat.sz_nonneg (u : DtBeat) : 0 ≤ DtBeat.sz u := by
  unfold DtBeat.sz
  omega
def DtBeat.wf (u : DtBeat) : Prop := (wfS wfI) u.fHeard ∧ (wfS wfI) u.fWait ∧ (wfS wfB) u.fAway
theorem DtBeat.ext_iff (u v : DtBeat) : (u = v) = (u.fHeard = v.fHeard ∧ u.fWait = v.fWait ∧ u.fAway = v.fAway) := by cases u; cases v; simp
theorem DtBeat.cells_len (u : DtBeat) : (DtBeat.cells u).length = 3 := (rfl)
structure DtEvent where
  fAt : Int
  fClient : Int
  fNo : Int
  fText : List UInt8
def DtEvent.cells (u : DtEvent) : List AV := [.g (.int .i64 u.fAt), .g (.int .i64 u.fClient), .g (.int .i64 u.fNo), .s u.fText]
def DtEvent.sz (u : DtEvent) : Int := (u.fText.length : Int)
theorem DtEvent.sz_nonneg (u : DtEvent) : 0 ≤ DtEvent.sz u := by
  unfold DtEvent.sz
  omega
def DtEvent.wf (u : DtEvent) : Prop := wfI u.fAt ∧ wfI u.fClient ∧ wfI u.fNo ∧ wfL u.fText
theorem DtEvent.ext_iff (u v : DtEvent) : (u = v) = (u.fAt = v.fAt ∧ u.fClient = v.fClient ∧ u.fNo = v.fNo ∧ u.fText = v.fText) := by cases u; cases v; simp
theorem DtEvent.cells_len (u : DtEvent) : (DtEvent.cells u).length = 4 := (rfl)
end Go.Proofs.Ytpaccfeiaekacaa.Vs

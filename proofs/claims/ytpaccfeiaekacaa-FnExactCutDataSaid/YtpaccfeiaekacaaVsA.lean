import Derived.Orders
import Derived.Below
import Derived.WalkKit
namespace Go.Proofs.Ytpaccfeiaekacaa.Vs
set_option linter.unusedVariables false
set_option linter.unusedSimpArgs false
set_option linter.unusedSectionVars false
set_option linter.unnecessarySimpa false
set_option linter.all false
inductive AV where
  | g (v : Value)
  | s (l : List UInt8)
  | agg (cs : List AV)
  | sl (sz : Nat) (xs : List (List AV))
  | ot (sz : Nat) (xs : List (List AV))
  | arr (n off len : Nat)
  | ptr (n off : Nat)
  | eptr (n i f : Nat)
  | ip (cs : List AV)
  | fn (f : FuncId) (fst cap : List AV)
  | tup (vs : List AV)
  | undef

mutual
/-- A value of immutable memory. -/
def RI (w : World) (I : Nat → Prop) : AV → Value → Prop
  | .g v, x => x = v ∧ v.oneCell' = true
  | .s l, x => x = .string ⟨l.toArray⟩
  | .sl sz xs, x => ∃ a cap, x = .slice a xs.length cap ∧ xs.length ≤ cap ∧ (xs = [] ∨ ∃ b o, a = some ⟨b, o, none⟩ ∧ I b ∧ RIe w I b sz o xs)
  | _, _ => False
def RIe (w : World) (I : Nat → Prop) (b sz : Nat) : Nat → List (List AV) → Prop
  | _, [] => True
  | o, x :: xs => x.length = sz ∧ RIc w I b o x ∧ RIe w I b sz (o + sz) xs
def RIc (w : World) (I : Nat → Prop) (b : Nat) : Nat → List AV → Prop
  | _, [] => True
  | o, c :: cs => (∃ v, w.cell? ⟨b, o, none⟩ = some v ∧ RI w I c v) ∧ RIc w I b (o + 1) cs
end
mutual
theorem RI_mono {w w' : World} {I I' : Nat → Prop} (hI : ∀ b, I b → I' b) (hw : ∀ b, I b → w'.heap[b]? = w.heap[b]?) : ∀ (av : AV) (x : Value), RI w I av x → RI w' I' av x
  | .g v, x, h => by simpa [RI] using h
  | .s v, x, h => by simpa [RI] using h
  | .sl sz xs, x, h => by
    rw [RI] at h ⊢
    obtain ⟨a, cap, rfl, hcap, h⟩ := h
    refine ⟨a, cap, rfl, hcap, h.imp id ?_⟩
    rintro ⟨b, o, rfl, hb, h⟩
    exact ⟨b, o, rfl, hI b hb, RIe_mono hI hw b hb sz o xs h⟩
  | .agg .., _, h | .ot .., _, h | .arr .., _, h | .ptr .., _, h | .eptr .., _, h | .ip .., _, h | .fn .., _, h | .tup .., _, h | .undef, _, h => by simp [RI] at h
theorem RIe_mono {w w' : World} {I I' : Nat → Prop} (hI : ∀ b, I b → I' b) (hw : ∀ b, I b → w'.heap[b]? = w.heap[b]?) (b : Nat) (hb : I b) (sz : Nat) : ∀ (o : Nat) (xs : List (List AV)), RIe w I b sz o xs → RIe w' I' b sz o xs
  | o, [], h => by simp [RIe]
  | o, x :: xs, h => by
    rw [RIe] at h ⊢
    exact ⟨h.1, RIc_mono hI hw b hb o x h.2.1, RIe_mono hI hw b hb sz (o + sz) xs h.2.2⟩
theorem RIc_mono {w w' : World} {I I' : Nat → Prop} (hI : ∀ b, I b → I' b) (hw : ∀ b, I b → w'.heap[b]? = w.heap[b]?) (b : Nat) (hb : I b) : ∀ (o : Nat) (cs : List AV), RIc w I b o cs → RIc w' I' b o cs
  | o, [], h => by simp [RIc]
  | o, c :: cs, h => by
    rw [RIc] at h ⊢
    obtain ⟨⟨v, hv, hr⟩, h2⟩ := h
    refine ⟨⟨v, ?_, RI_mono hI hw c v hr⟩, RIc_mono hI hw b hb (o + 1) cs h2⟩
    simpa [World.cell?, hw b hb] using hv
end

/-- A block with a base offset, the number of cells of an element, the number of elements that fit. -/
structure Bl where
  b : Nat
  o : Nat
  sz : Nat
  cap : Nat
abbrev Beta := Nat → Option Bl

/-- A value of the frame, not a function. -/
def Rv0 (w : World) (I : Nat → Prop) (β : Beta) : AV → Value → Prop
  | .g v, x => x = v
  | .s l, x => x = .string ⟨l.toArray⟩
  | .sl sz xs, x => RI w I (.sl sz xs) x
  | .arr n off len, x => ∃ bl, β n = some bl ∧ off + len ≤ bl.cap ∧
      (x = .slice (some ⟨bl.b, bl.o + off * bl.sz, none⟩) len (bl.cap - off) ∨ (off = bl.cap ∧ ∃ a, x = .slice a 0 0))
  | .ptr n off, x => ∃ bl, β n = some bl ∧ x = .pointer (some ⟨bl.b, bl.o + off, none⟩)
  | .eptr n i f, x => ∃ bl, β n = some bl ∧ x = .pointer (some ⟨bl.b, bl.o + (i * bl.sz + f), none⟩)
  | .ip cs, x => ∃ b o, x = .pointer (some ⟨b, o, none⟩) ∧ I b ∧ RIc w I b o cs
  | .undef, _ => True
  | _, _ => False
def Rv0s (w : World) (I : Nat → Prop) (β : Beta) : List AV → List Value → Prop
  | [], vs => vs = []
  | c :: cs, vs => ∃ v vs', vs = v :: vs' ∧ Rv0 w I β c v ∧ Rv0s w I β cs vs'
def Rv1 (w : World) (I : Nat → Prop) (β : Beta) : AV → Value → Prop
  | .fn f fst cap, x => ∃ vs us : List Value, x = .func (.func f) ⟨vs⟩ ⟨us⟩ ∧ Rv0s w I β fst vs ∧ Rv0s w I β cap us
  | a, x => Rv0 w I β a x
def Rv1s (w : World) (I : Nat → Prop) (β : Beta) : List AV → List Value → Prop
  | [], vs => vs = []
  | c :: cs, vs => ∃ v vs', vs = v :: vs' ∧ Rv1 w I β c v ∧ Rv1s w I β cs vs'
def Rv2 (w : World) (I : Nat → Prop) (β : Beta) : AV → Value → Prop
  | .agg cs, x => ∃ vs : List Value, x = .agg ⟨vs⟩ ∧ Rv1s w I β cs vs
  | a, x => Rv1 w I β a x
def Rv2s (w : World) (I : Nat → Prop) (β : Beta) : List AV → List Value → Prop
  | [], vs => vs = []
  | c :: cs, vs => ∃ v vs', vs = v :: vs' ∧ Rv2 w I β c v ∧ Rv2s w I β cs vs'
/-- A value of the frame. -/
def Rv (w : World) (I : Nat → Prop) (β : Beta) : AV → Value → Prop
  | .tup cs, x => ∃ vs : List Value, x = .tuple ⟨vs⟩ ∧ Rv2s w I β cs vs
  | a, x => Rv2 w I β a x

section mono
variable {w w' : World} {I I' : Nat → Prop} {β β' : Beta}
  (hI : ∀ b, I b → I' b) (hw : ∀ b, I b → w'.heap[b]? = w.heap[b]?) (hβ : ∀ n bl, β n = some bl → β' n = some bl)
include hI hw hβ
theorem Rv0_mono : ∀ (av : AV) (x : Value), Rv0 w I β av x → Rv0 w' I' β' av x
  | .g v, x, h => h
  | .s v, x, h => h
  | .sl sz xs, x, h => RI_mono hI hw _ x h
  | .arr n off len, x, h => by obtain ⟨bl, h1, h2⟩ := h; exact ⟨bl, hβ _ _ h1, h2⟩
  | .ptr n off, x, h => by obtain ⟨bl, h1, h2⟩ := h; exact ⟨bl, hβ _ _ h1, h2⟩
  | .eptr n i f, x, h => by obtain ⟨bl, h1, h2⟩ := h; exact ⟨bl, hβ _ _ h1, h2⟩
  | .ip cs, x, h => by obtain ⟨b, o, h1, h2, h3⟩ := h; exact ⟨b, o, h1, hI b h2, RIc_mono hI hw b h2 o cs h3⟩
  | .undef, _, _ => trivial
  | .agg .., _, h | .ot .., _, h | .fn .., _, h | .tup .., _, h => h.elim
theorem Rv0s_mono : ∀ (cs : List AV) (vs : List Value), Rv0s w I β cs vs → Rv0s w' I' β' cs vs
  | [], _, h => h
  | c :: cs, _, h => by obtain ⟨v, vs', h1, h2, h3⟩ := h; exact ⟨v, vs', h1, Rv0_mono hI hw hβ c v h2, Rv0s_mono cs vs' h3⟩
theorem Rv1_mono : ∀ (av : AV) (x : Value), Rv1 w I β av x → Rv1 w' I' β' av x
  | .fn f fst cap, x, h => by obtain ⟨vs, us, h1, h2, h3⟩ := h; exact ⟨vs, us, h1, Rv0s_mono hI hw hβ _ _ h2, Rv0s_mono hI hw hβ _ _ h3⟩
  | .g v, x, h => Rv0_mono hI hw hβ (.g v) x h | .s v, x, h => Rv0_mono hI hw hβ (.s v) x h | .sl s l, x, h => Rv0_mono hI hw hβ (.sl s l) x h | .arr n o l, x, h => Rv0_mono hI hw hβ (.arr n o l) x h
  | .ptr n o, x, h => Rv0_mono hI hw hβ (.ptr n o) x h | .eptr n i f, x, h => Rv0_mono hI hw hβ (.eptr n i f) x h | .ip c, x, h => Rv0_mono hI hw hβ (.ip c) x h
  | .undef, _, _ => trivial | .agg .., _, h | .ot .., _, h | .tup .., _, h => h.elim
theorem Rv1s_mono : ∀ (cs : List AV) (vs : List Value), Rv1s w I β cs vs → Rv1s w' I' β' cs vs
  | [], _, h => h
  | c :: cs, _, h => by obtain ⟨v, vs', h1, h2, h3⟩ := h; exact ⟨v, vs', h1, Rv1_mono hI hw hβ c v h2, Rv1s_mono cs vs' h3⟩
theorem Rv2_mono : ∀ (av : AV) (x : Value), Rv2 w I β av x → Rv2 w' I' β' av x
  | .agg cs, x, h => by obtain ⟨vs, h1, h2⟩ := h; exact ⟨vs, h1, Rv1s_mono hI hw hβ _ _ h2⟩
  | .g v, x, h => Rv1_mono hI hw hβ (.g v) x h | .s v, x, h => Rv1_mono hI hw hβ (.s v) x h | .sl s l, x, h => Rv1_mono hI hw hβ (.sl s l) x h | .arr n o l, x, h => Rv1_mono hI hw hβ (.arr n o l) x h
  | .ptr n o, x, h => Rv1_mono hI hw hβ (.ptr n o) x h | .eptr n i f, x, h => Rv1_mono hI hw hβ (.eptr n i f) x h | .ip c, x, h => Rv1_mono hI hw hβ (.ip c) x h
  | .fn f a b, x, h => Rv1_mono hI hw hβ (.fn f a b) x h | .undef, _, _ => trivial | .ot .., _, h | .tup .., _, h => h.elim
theorem Rv2s_mono : ∀ (cs : List AV) (vs : List Value), Rv2s w I β cs vs → Rv2s w' I' β' cs vs
  | [], _, h => h
  | c :: cs, _, h => by obtain ⟨v, vs', h1, h2, h3⟩ := h; exact ⟨v, vs', h1, Rv2_mono hI hw hβ c v h2, Rv2s_mono cs vs' h3⟩
theorem Rv_mono : ∀ (av : AV) (x : Value), Rv w I β av x → Rv w' I' β' av x
  | .tup cs, x, h => by obtain ⟨vs, h1, h2⟩ := h; exact ⟨vs, h1, Rv2s_mono hI hw hβ _ _ h2⟩
  | .g v, x, h => Rv2_mono hI hw hβ (.g v) x h | .s v, x, h => Rv2_mono hI hw hβ (.s v) x h | .sl s l, x, h => Rv2_mono hI hw hβ (.sl s l) x h | .arr n o l, x, h => Rv2_mono hI hw hβ (.arr n o l) x h
  | .ptr n o, x, h => Rv2_mono hI hw hβ (.ptr n o) x h | .eptr n i f, x, h => Rv2_mono hI hw hβ (.eptr n i f) x h | .ip c, x, h => Rv2_mono hI hw hβ (.ip c) x h
  | .fn f a b, x, h => Rv2_mono hI hw hβ (.fn f a b) x h | .agg c, x, h => Rv2_mono hI hw hβ (.agg c) x h | .undef, _, _ => trivial | .ot .., _, h => h.elim
end mono

inductive OB where
  | cells (cs : List AV)
  | rocells (cs : List AV)
  | flat (sz : Nat) (xs : List (List AV))
  | shared (sz : Nat) (xs : List (List AV))
  | dead
  | win (sz : Nat) (xs : List (List AV))
  | own (sz : Nat) (xs : List (List AV))
  | park (ps : List (AV × Value))
/-- May a call write the object? -/
def OB.wr : OB → Bool
  | .cells _ => true
  | .win .. => true
  | .own .. => true
  | .park _ => true
  | _ => false

/-- Cells of the frame's own. -/
def Rcs (w : World) (I : Nat → Prop) (β : Beta) (b : Nat) : Nat → List AV → Prop
  | _, [] => True
  | o, c :: cs => (∃ v, w.cell? ⟨b, o, none⟩ = some v ∧ Rv1 w I β c v) ∧ Rcs w I β b (o + 1) cs
/-- A row of cells of the frame's own. -/
def RJc (w : World) (I : Nat → Prop) (β : Beta) (b : Nat) : Nat → List AV → Prop
  | _, [] => True
  | o, c :: cs => (∃ v, w.cell? ⟨b, o, none⟩ = some v ∧ Rv1 w I β c v ∧ v.oneCell' = true) ∧ RJc w I β b (o + 1) cs
def RJe (w : World) (I : Nat → Prop) (β : Beta) (b sz : Nat) : Nat → List (List AV) → Prop
  | _, [] => True
  | o, x :: xs => x.length = sz ∧ RJc w I β b o x ∧ RJe w I β b sz (o + sz) xs
/-- A row that may be written from offset o on, n cells. -/
def OwnW (w : World) (b o n : Nat) : Prop := ∃ arr ty, w.heap[b]? = some (.cells arr ty (0, 0)) ∧ o + n ≤ arr.size

mutual
/-- A value whose rows are all its own: F: their blocks. -/
def RW (w : World) : AV → Value → List Nat → Prop
  | .g v, x, F => x = v ∧ v.oneCell' = true ∧ F = []
  | .s l, x, F => x = .string ⟨l.toArray⟩ ∧ F = []
  | .sl sz xs, x, F => ∃ a cap, x = .slice a xs.length cap ∧ xs.length ≤ cap ∧ ((xs = [] ∧ cap = 0 ∧ F = []) ∨ ∃ b F', a = some ⟨b, 0, none⟩ ∧ F = b :: F' ∧ OwnW w b 0 (cap * sz) ∧ RWe w b sz 0 xs F')
  | _, _, _ => False
def RWe (w : World) (b sz : Nat) : Nat → List (List AV) → List Nat → Prop
  | _, [], F => F = []
  | o, x :: xs, F => ∃ F1 F2, F = F1 ++ F2 ∧ x.length = sz ∧ RWc w b o x F1 ∧ RWe w b sz (o + sz) xs F2
def RWc (w : World) (b : Nat) : Nat → List AV → List Nat → Prop
  | _, [], F => F = []
  | o, c :: cs, F => ∃ F1 F2, F = F1 ++ F2 ∧ (∃ v, w.cell? ⟨b, o, none⟩ = some v ∧ RW w c v F1) ∧ RWc w b (o + 1) cs F2
end
/-- Trees that are kept by their roots' values. -/
def RWs (w : World) : List (AV × Value) → List Nat → Prop
  | [], F => F = []
  | p :: ps, F => ∃ F1 F2, F = F1 ++ F2 ∧ RW w p.1 p.2 F1 ∧ RWs w ps F2
theorem OwnW_eq {w w' : World} {b o n : Nat} (hb : w'.heap[b]? = w.heap[b]?) (h : OwnW w b o n) : OwnW w' b o n := by
  obtain ⟨arr, ty, h1, h2⟩ := h
  exact ⟨arr, ty, by rw [hb]; exact h1, h2⟩
mutual
theorem RW_mono {w w' : World} : ∀ (c : AV) (x : Value) (F : List Nat), (∀ b ∈ F, w'.heap[b]? = w.heap[b]?) → RW w c x F → RW w' c x F
  | .g v, x, F, _, h => by simpa [RW] using h
  | .s v, x, F, _, h => by simpa [RW] using h
  | .sl sz xs, x, F, hF, h => by
    rw [RW] at h ⊢
    obtain ⟨a, cap, h1, h2, h3 | ⟨b, F', h3, rfl, h4, h5⟩⟩ := h
    · exact ⟨a, cap, h1, h2, .inl h3⟩
    · exact ⟨a, cap, h1, h2, .inr ⟨b, F', h3, rfl, OwnW_eq (hF b (by simp)) h4, RWe_mono b (hF b (by simp)) sz 0 xs F' (fun c hc => hF c (by simp [hc])) h5⟩⟩
  | .agg .., _, _, _, h | .ot .., _, _, _, h | .arr .., _, _, _, h | .ptr .., _, _, _, h | .eptr .., _, _, _, h | .ip .., _, _, _, h | .fn .., _, _, _, h | .tup .., _, _, _, h | .undef, _, _, _, h => by simp [RW] at h
theorem RWe_mono {w w' : World} (b : Nat) (hb : w'.heap[b]? = w.heap[b]?) (sz : Nat) : ∀ (o : Nat) (xs : List (List AV)) (F : List Nat), (∀ b ∈ F, w'.heap[b]? = w.heap[b]?) → RWe w b sz o xs F → RWe w' b sz o xs F
  | o, [], F, _, h => by simpa [RWe] using h
  | o, x :: xs, F, hF, h => by
    rw [RWe] at h ⊢
    obtain ⟨F1, F2, rfl, h1, h2, h3⟩ := h
    exact ⟨F1, F2, rfl, h1, RWc_mono b hb o x F1 (fun c hc => hF c (by simp [hc])) h2, RWe_mono b hb sz (o + sz) xs F2 (fun c hc => hF c (by simp [hc])) h3⟩
theorem RWc_mono {w w' : World} (b : Nat) (hb : w'.heap[b]? = w.heap[b]?) : ∀ (o : Nat) (cs : List AV) (F : List Nat), (∀ b ∈ F, w'.heap[b]? = w.heap[b]?) → RWc w b o cs F → RWc w' b o cs F
  | o, [], F, _, h => by simpa [RWc] using h
  | o, c :: cs, F, hF, h => by
    rw [RWc] at h ⊢
    obtain ⟨F1, F2, rfl, ⟨v, hv, h2⟩, h3⟩ := h
    refine ⟨F1, F2, rfl, ⟨v, ?_, RW_mono c v F1 (fun c hc => hF c (by simp [hc])) h2⟩, RWc_mono b hb (o + 1) cs F2 (fun c hc => hF c (by simp [hc])) h3⟩
    simpa [World.cell?, hb] using hv
end
theorem RWs_mono {w w' : World} : ∀ (ps : List (AV × Value)) (F : List Nat), (∀ b ∈ F, w'.heap[b]? = w.heap[b]?) → RWs w ps F → RWs w' ps F
  | [], F, _, h => h
  | p :: ps, F, hF, h => by
    obtain ⟨F1, F2, rfl, h1, h2⟩ := h
    exact ⟨F1, F2, rfl, RW_mono _ _ F1 (fun c hc => hF c (by simp [hc])) h1, RWs_mono ps F2 (fun c hc => hF c (by simp [hc])) h2⟩
def RO (w : World) (I : Nat → Prop) (β : Beta) (n : Nat) : OB → List Nat → Prop
  | .cells cs, F => ∃ bl, β n = some bl ∧ F = [bl.b] ∧ OwnW w bl.b bl.o cs.length ∧ Rcs w I β bl.b bl.o cs
  | .rocells cs, F => ∃ bl, β n = some bl ∧ F = [bl.b] ∧ Rcs w I β bl.b bl.o cs
  | .flat sz xs, F => ∃ bl, β n = some bl ∧ bl.sz = sz ∧ bl.o = 0 ∧ xs.length ≤ bl.cap ∧ ((bl.cap = 0 ∧ F = []) ∨ (F = [bl.b] ∧ OwnW w bl.b 0 (bl.cap * sz) ∧ RIe w I bl.b sz 0 xs))
  | .shared sz xs, F => ∃ bl, β n = some bl ∧ bl.sz = sz ∧ bl.o = 0 ∧ xs.length ≤ bl.cap ∧ F = [] ∧ (bl.cap = 0 ∨ (I bl.b ∧ RIe w I bl.b sz 0 xs))
  | .dead, F => F = []
  | .win sz xs, F => ∃ bl, β n = some bl ∧ bl.sz = sz ∧ bl.o = 0 ∧ xs.length ≤ bl.cap ∧ ((bl.cap = 0 ∧ F = []) ∨ (F = [bl.b] ∧ OwnW w bl.b 0 (bl.cap * sz) ∧ RJe w I β bl.b sz 0 xs))
  | .own sz xs, F => ∃ bl, β n = some bl ∧ bl.sz = sz ∧ bl.o = 0 ∧ xs.length ≤ bl.cap ∧ F.Nodup ∧ ((bl.cap = 0 ∧ F = []) ∨ ∃ F', F = bl.b :: F' ∧ OwnW w bl.b 0 (bl.cap * sz) ∧ RWe w bl.b sz 0 xs F')
  | .park ps, F => F.Nodup ∧ RWs w ps F

section mono2
variable {w w' : World} {I I' : Nat → Prop} {β β' : Beta}
  (hI : ∀ b, I b → I' b) (hw : ∀ b, I b → w'.heap[b]? = w.heap[b]?) (hβ : ∀ n bl, β n = some bl → β' n = some bl)
include hI hw
omit hw hI in
theorem cell?_of_heap {b : Nat} (hb : w'.heap[b]? = w.heap[b]?) (o : Nat) : w'.cell? ⟨b, o, none⟩ = w.cell? ⟨b, o, none⟩ := by simp [World.cell?, hb]
/-- The elements of an own row: the row's block stays, and so does what is immutable. -/
theorem RIc_own (b : Nat) (hb : w'.heap[b]? = w.heap[b]?) : ∀ (o : Nat) (cs : List AV), RIc w I b o cs → RIc w' I' b o cs
  | o, [], h => by simp [RIc]
  | o, c :: cs, h => by
    rw [RIc] at h ⊢
    obtain ⟨⟨v, hv, hr⟩, h2⟩ := h
    exact ⟨⟨v, by rw [cell?_of_heap hb]; exact hv, RI_mono hI hw c v hr⟩, RIc_own b hb (o + 1) cs h2⟩
theorem RIe_own (b : Nat) (hb : w'.heap[b]? = w.heap[b]?) (sz : Nat) : ∀ (o : Nat) (xs : List (List AV)), RIe w I b sz o xs → RIe w' I' b sz o xs
  | o, [], h => by simp [RIe]
  | o, x :: xs, h => by
    rw [RIe] at h ⊢
    exact ⟨h.1, RIc_own hI hw b hb o x h.2.1, RIe_own b hb sz (o + sz) xs h.2.2⟩
include hβ
theorem Rcs_mono (b : Nat) (hb : w'.heap[b]? = w.heap[b]?) : ∀ (o : Nat) (cs : List AV), Rcs w I β b o cs → Rcs w' I' β' b o cs
  | o, [], h => trivial
  | o, c :: cs, h => by
    obtain ⟨⟨v, hv, hr⟩, h2⟩ := h
    exact ⟨⟨v, by rw [cell?_of_heap hb]; exact hv, Rv1_mono hI hw hβ c v hr⟩, Rcs_mono b hb (o + 1) cs h2⟩
theorem RJc_mono (b : Nat) (hb : w'.heap[b]? = w.heap[b]?) : ∀ (o : Nat) (cs : List AV), RJc w I β b o cs → RJc w' I' β' b o cs
  | o, [], h => trivial
  | o, c :: cs, h => by
    obtain ⟨⟨v, hv, hr, h1⟩, h2⟩ := h
    exact ⟨⟨v, by rw [cell?_of_heap hb]; exact hv, Rv1_mono hI hw hβ c v hr, h1⟩, RJc_mono b hb (o + 1) cs h2⟩
theorem RJe_mono (b : Nat) (hb : w'.heap[b]? = w.heap[b]?) (sz : Nat) : ∀ (o : Nat) (xs : List (List AV)), RJe w I β b sz o xs → RJe w' I' β' b sz o xs
  | o, [], h => trivial
  | o, x :: xs, h => ⟨h.1, RJc_mono hI hw hβ b hb o x h.2.1, RJe_mono b hb sz (o + sz) xs h.2.2⟩
theorem RO_mono (n : Nat) : ∀ (ob : OB) (F : List Nat), (∀ b ∈ F, w'.heap[b]? = w.heap[b]?) → RO w I β n ob F → RO w' I' β' n ob F
  | .cells cs, F, hF, h => by
    obtain ⟨bl, h1, rfl, ⟨arr, ty, h2, h3⟩, h4⟩ := h
    have hb := hF bl.b (by simp)
    exact ⟨bl, hβ _ _ h1, rfl, ⟨arr, ty, by rw [hb]; exact h2, h3⟩, Rcs_mono hI hw hβ _ hb _ _ h4⟩
  | .rocells cs, F, hF, h => by
    obtain ⟨bl, h1, rfl, h4⟩ := h
    exact ⟨bl, hβ _ _ h1, rfl, Rcs_mono hI hw hβ _ (hF bl.b (by simp)) _ _ h4⟩
  | .flat sz xs, F, hF, h => by
    obtain ⟨bl, h1, h2, h3, h4, h | ⟨rfl, ⟨arr, ty, h5, h6⟩, h7⟩⟩ := h
    · exact ⟨bl, hβ _ _ h1, h2, h3, h4, .inl h⟩
    · have hb := hF bl.b (by simp)
      exact ⟨bl, hβ _ _ h1, h2, h3, h4, .inr ⟨rfl, ⟨arr, ty, by rw [hb]; exact h5, h6⟩, RIe_own hI hw _ hb _ _ _ h7⟩⟩
  | .shared sz xs, F, hF, h => by
    obtain ⟨bl, h1, h2, h3, h4, h5, h6⟩ := h
    exact ⟨bl, hβ _ _ h1, h2, h3, h4, h5, h6.imp id fun h6 => ⟨hI _ h6.1, RIe_mono hI hw _ h6.1 _ _ _ h6.2⟩⟩
  | .dead, F, hF, h => h
  | .win sz xs, F, hF, h => by
    obtain ⟨bl, h1, h2, h3, h4, h | ⟨rfl, h6, h7⟩⟩ := h
    · exact ⟨bl, hβ _ _ h1, h2, h3, h4, .inl h⟩
    · have hb := hF bl.b (by simp)
      exact ⟨bl, hβ _ _ h1, h2, h3, h4, .inr ⟨rfl, OwnW_eq hb h6, RJe_mono hI hw hβ _ hb _ _ _ h7⟩⟩
  | .own sz xs, F, hF, h => by
    obtain ⟨bl, h1, h2, h3, h4, h5, h | ⟨F', rfl, h6, h7⟩⟩ := h
    · exact ⟨bl, hβ _ _ h1, h2, h3, h4, h5, .inl h⟩
    · have hb := hF bl.b (by simp)
      exact ⟨bl, hβ _ _ h1, h2, h3, h4, h5, .inr ⟨F', rfl, OwnW_eq hb h6, RWe_mono _ hb _ _ _ _ (fun c hc => hF c (by simp [hc])) h7⟩⟩
  | .park ps, F, hF, h => ⟨h.1, RWs_mono _ _ hF h.2⟩
end mono2

structure St where
  env : Nat → AV
  ob : Nat → Option OB
def upd {α : Type} (f : Nat → α) (n : Nat) (v : α) : Nat → α := fun m => bif m == n then v else f m
theorem upd_same {α : Type} (f : Nat → α) (n : Nat) (v : α) : upd f n v n = v := by simp [upd]
theorem upd_other {α : Type} (f : Nat → α) {n m : Nat} (v : α) (h : m ≠ n) : upd f n v m = f m := by
  have : (m == n) = false := by simpa using h
  simp [upd, this]

/-- From w to w' nothing has turned but the blocks of S (and new ones). -/
structure Evo (S : Nat → Prop) (w w' : World) : Prop where
  os : w'.os = w.os
  tape : w'.tape = w.tape
  output : w'.output = w.output
  size : w.heap.size ≤ w'.heap.size
  blk : ∀ b, b < w.heap.size → ¬ S b → w'.heap[b]? = w.heap[b]?
theorem Evo.refl (S : Nat → Prop) (w : World) : Evo S w w := ⟨rfl, rfl, rfl, Nat.le_refl _, fun _ _ _ => rfl⟩
theorem Evo.mono {S S' : Nat → Prop} {w w' : World} (h : Evo S w w') (hs : ∀ b, b < w.heap.size → S b → S' b) : Evo S' w w' :=
  ⟨h.os, h.tape, h.output, h.size, fun b hb hn => h.blk b hb fun hs' => hn (hs b hb hs')⟩
theorem Evo.trans {S : Nat → Prop} {w w' w'' : World} (h : Evo S w w') (k : Evo S w' w'') : Evo S w w'' :=
  ⟨k.os.trans h.os, k.tape.trans h.tape, k.output.trans h.output, Nat.le_trans h.size k.size,
   fun b hb hn => (k.blk b (Nat.lt_of_lt_of_le hb h.size) hn).trans (h.blk b hb hn)⟩
theorem Evo.drew {S : Nat → Prop} {w w' : World} (h : Evo S w w') : Evo S w { w' with drawn := w'.drawn + 1 } := ⟨h.os, h.tape, h.output, h.size, h.blk⟩

/-- w0: the world as the call began; X: the blocks that were handed in to be written; Y: those that were handed in to be read. -/
structure Cx where
  w0 : World
  I0 : Nat → Prop
  X : Nat → Prop
  Y : Nat → Prop
  β0 : Beta
  nt : Nat
/-- What the walk knows and what the machine holds. -/
structure Conc (C : Cx) (st : St) (a : Act) (w : World) (I : Nat → Prop) (β : Beta) (φ : Nat → List Nat) : Prop where
  evo : Evo C.X C.w0 w
  immLt : ∀ b, I b → b < w.heap.size
  imm0 : ∀ b, C.I0 b → I b
  immNew : ∀ b, I b → C.I0 b ∨ C.w0.heap.size ≤ b
  sz : a.tmps.size = C.nt
  dfr : a.defers = []
  env : ∀ t, Rv w I β (st.env t) (a.tmps.getD t undef)
  ob : ∀ n o, st.ob n = some o → RO w I β n o (φ n)
  dom : ∀ n, st.ob n = none → β n = none
  fdom : ∀ n, st.ob n = none → φ n = []
  sep : ∀ n m, n ≠ m → ∀ b, b ∈ φ n → b ∈ φ m → False
  nimm : ∀ n b, b ∈ φ n → ¬ I b
  flt : ∀ n b, b ∈ φ n → b < w.heap.size ∧ (C.X b ∨ C.Y b ∨ C.w0.heap.size ≤ b)
  wok : ∀ n o, st.ob n = some o → o.wr = true → ∀ b, b ∈ φ n → ¬ C.Y b
  ylt : ∀ b, C.Y b → b < C.w0.heap.size
  fnew : ∀ n sz xs, st.ob n = some (.flat sz xs) → ∀ b, b ∈ φ n → C.w0.heap.size ≤ b
  xlt : ∀ b, C.X b → b < C.w0.heap.size
  bet : ∀ n bl, C.β0 n = some bl → β n = some bl

section conc
variable {C : Cx} {st : St} {a : Act} {w : World} {I : Nat → Prop} {β : Beta} {φ : Nat → List Nat}
/-- The operand's value. -/
theorem Conc.put (h : Conc C st a w I β φ) {d : Nat} (hd : d < C.nt) {v : AV} {x : Value} (hv : Rv w I β v x) :
    Conc C { st with env := upd st.env d v } (a.put (some d) x) w I β φ :=
  { h with
    sz := by simpa [Act.put] using h.sz
    dfr := h.dfr
    env := fun t => by
      by_cases ht : t = d
      · subst ht
        simp only [upd_same]
        have : t < a.tmps.size := h.sz ▸ hd
        simpa [Act.put, Array.getD, this] using hv
      · simp only [upd_other _ _ ht]
        have := h.env t
        simpa [Act.put, Array.getD_eq_getD_getElem?, Array.getElem?_setIfInBounds_ne (Ne.symm ht)] using this }
theorem Conc.put_none (h : Conc C st a w I β φ) (x : Value) : Conc C st (a.put none x) w I β φ := h
/-- The world moves on: only the block of object n is written, new blocks come. -/
theorem Conc.move (h : Conc C st a w I β φ) {w' : World} {I' : Nat → Prop} {β' : Beta} {φ' : Nat → List Nat} {ob' : Nat → Option OB}
    (T : Nat → Prop)
    (hev : Evo T w w') (hT : ∀ b, T b → ∃ n, b ∈ φ n ∧ ¬ C.Y b) (hII : ∀ b, I b → I' b)
    (hIn : ∀ b, I' b → I b ∨ (w.heap.size ≤ b ∧ b < w'.heap.size) ∨ (b < w.heap.size ∧ C.w0.heap.size ≤ b))
    (hβ : ∀ n bl, β n = some bl → β' n = some bl)
    (hob : ∀ n o, ob' n = some o → (st.ob n = some o ∧ φ' n = φ n ∧ ∀ b ∈ φ n, ¬ T b) ∨ RO w' I' β' n o (φ' n))
    (hdom : ∀ n, ob' n = none → β' n = none) (hfdom : ∀ n, ob' n = none → φ' n = [])
    (hsep : ∀ n m, n ≠ m → ∀ b, b ∈ φ' n → b ∈ φ' m → False) (hnimm : ∀ n b, b ∈ φ' n → ¬ I' b)
    (hflt : ∀ n b, b ∈ φ' n → b < w'.heap.size ∧ (C.X b ∨ C.Y b ∨ C.w0.heap.size ≤ b))
    (hwok : ∀ n o, ob' n = some o → o.wr = true → ∀ b, b ∈ φ' n → ¬ C.Y b)
    (hfnew : ∀ n sz xs, ob' n = some (.flat sz xs) → ∀ b, b ∈ φ' n → C.w0.heap.size ≤ b) :
    Conc C { st with ob := ob' } a w' I' β' φ' := by
  have himm : ∀ b, I b → w'.heap[b]? = w.heap[b]? := fun b hb => hev.blk b (h.immLt b hb) fun ht => by
    obtain ⟨n, hn, -⟩ := hT b ht
    exact h.nimm n b hn hb
  refine ⟨⟨hev.os.trans h.evo.os, hev.tape.trans h.evo.tape, hev.output.trans h.evo.output, Nat.le_trans h.evo.size hev.size, fun b hb hn => ?_⟩, ?_, fun b hb => hII b (h.imm0 b hb), ?_, h.sz, h.dfr,
    fun t => Rv_mono hII himm hβ _ _ (h.env t), ?_, hdom, hfdom, hsep, hnimm, hflt, hwok, h.ylt, hfnew, h.xlt, fun n bl hb => hβ n bl (h.bet n bl hb)⟩
  · refine (hev.blk b (Nat.lt_of_lt_of_le hb h.evo.size) fun ht => ?_).trans (h.evo.blk b hb hn)
    obtain ⟨n, hn', hy⟩ := hT b ht
    rcases (h.flt n b hn').2 with hx | hx | hx
    · exact hn hx
    · exact hy hx
    · omega
  · intro b hb
    rcases hIn b hb with h1 | h1 | h1
    · exact Nat.lt_of_lt_of_le (h.immLt b h1) hev.size
    · exact h1.2
    · exact Nat.lt_of_lt_of_le h1.1 hev.size
  · intro b hb
    rcases hIn b hb with h1 | h1 | h1
    · exact h.immNew b h1
    · exact .inr (Nat.le_trans h.evo.size h1.1)
    · exact .inr h1.2
  · intro n o ho
    rcases hob n o ho with ⟨h1, h2, h3⟩ | h1
    · rw [h2]
      exact RO_mono hII himm hβ n o _ (fun b hb => hev.blk b (h.flt n b hb).1 (h3 b hb)) (h.ob n o h1)
    · exact h1
end conc
end Go.Proofs.Ytpaccfeiaekacaa.Vs

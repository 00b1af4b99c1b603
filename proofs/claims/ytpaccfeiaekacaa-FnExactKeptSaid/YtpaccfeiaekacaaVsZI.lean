import Derived.Test.YtpaccfeiaekacaaVsZH
namespace Go.Proofs.Ytpaccfeiaekacaa.Vs
set_option linter.unusedVariables false
set_option linter.unusedSimpArgs false
set_option linter.unusedSectionVars false
set_option linter.unnecessarySimpa false
set_option linter.all false
open Go.RowKit
variable {P : Program}
/-! ### Calls that hand on one object to be read; helps -/
section
variable {q : Bool} {rest : List CO} {K : St → Prop} {st : St} {dst : Option Nat} {f : FuncId} {l l' : List AV} {r : AV}
theorem CKd_r1 (n : Nat) {cs cs' : List AV} (ho : st.ob n = some (.cells cs) ∨ st.ob n = some (.rocells cs)) (hm : am1s st (nuOf [n] []) cs cs') (ha : am2s st (nuOf [n] []) l l') (hp : GCall P f l' [cs'] [] r []) (hs : scal r = true) (hk : creg P q rest (putC st dst r []) K) : CKd P q rest K st dst f l := by
  refine ⟨r, [], ⟨[n], [], l', [cs'], [], [], hp, rfl, rfl, rfl, by simp, by simp, ha, ⟨⟨cs, ho, hm⟩, rfl⟩, rfl, ?_⟩, fun _ => rfl, hk⟩
  simp [hs, zipW]
theorem am2_ptr0 {n off : Nat} : am2 st (nuOf [n] []) (.ptr n off) (.ptr 0 off) := by
  exact ⟨rfl, rfl⟩
theorem am2_fn0 {n off : Nat} {g : FuncId} : am2 st (nuOf [n] []) (.fn g [] [.ptr n off]) (.fn g [] [.ptr 0 off]) := ⟨rfl, rfl, ⟨⟨rfl, rfl⟩, rfl⟩⟩
theorem am2_fnn {ν : Nat → Option Nat} {g : FuncId} : am2 st ν (.fn g [] []) (.fn g [] []) := ⟨rfl, rfl, rfl⟩
end
theorem formOb_r1 (cs : List AV) (n : Nat) : formOb [cs] [] n = if n = 0 then some (.rocells cs) else none := by
  unfold formOb
  by_cases h : n = 0
  · subst h; simp
  · rw [if_neg h]
    split
    · cases n with
      | zero => exact absurd rfl h
      | succ n => simp
    · simp
theorem toNat_pred (k : Nat) : ((k : Int) - 1).toNat = k - 1 := by omega
noncomputable def decB (p : Prop) : Bool := @decide p (Classical.propDecidable p)
theorem decB_t {p : Prop} (h : p) : decB p = true := by unfold decB; simpa using h
theorem decB_f {p : Prop} (h : ¬ p) : decB p = false := by unfold decB; simpa using h
theorem decB_true (p : Prop) : (decB p = true) = p := by unfold decB; simp
theorem decB_false (p : Prop) : (decB p = false) = ¬ p := by unfold decB; simp
/-- The place of the first that is meant; -1 where there is none. -/
def idxZ {α : Type} (p : α → Bool) (l : List α) : Int := match l.findIdx? p with
  | some i => i
  | none => -1
theorem idxZ_found {α : Type} {p : α → Bool} {l : List α} {i : Nat} (hi : i < l.length) (h : p l[i] = true) (hb : ∀ j x, j < i → l[j]? = some x → p x = false) : idxZ p l = i := by
  have : l.findIdx? p = some i := by
    rw [List.findIdx?_eq_some_iff_getElem]
    refine ⟨hi, h, fun j hj => ?_⟩
    have := hb j l[j] hj (List.getElem?_eq_getElem (by omega))
    simp [this]
  unfold idxZ
  rw [this]
theorem idxZ_none {α : Type} {p : α → Bool} {l : List α} (hb : ∀ j x, j < l.length → l[j]? = some x → p x = false) : idxZ p l = -1 := by
  have : l.findIdx? p = none := by
    rw [List.findIdx?_eq_none_iff]
    intro x hx
    obtain ⟨j, hj⟩ := List.getElem?_of_mem hx
    exact hb j x (List.getElem?_eq_some_iff.1 hj).1 hj
  unfold idxZ
  rw [this]
theorem idxZ_bd {α : Type} (p : α → Bool) (l : List α) : -1 ≤ idxZ p l ∧ idxZ p l < (l.length : Int) + 1 := by
  unfold idxZ
  split
  · rename_i i h
    have := (List.findIdx?_eq_some_iff_getElem.1 h).1
    omega
  · omega
end Go.Proofs.Ytpaccfeiaekacaa.Vs

import Derived.Test.YtpaccfeiaekacaaVsM
import Derived.Laws.BytesArg
namespace Go.Proofs.Ytpaccfeiaekacaa.Vs
set_option linter.unusedVariables false
set_option linter.unusedSimpArgs false
set_option linter.unusedSectionVars false
set_option linter.unnecessarySimpa false
set_option linter.all false
open Go.RowKit
variable {P : Program}
/-- What an operation must do. -/
def GoodOp (P : Program) (C : Cx) (st : St) (a : Act) (w : World) (o : Oper) (v : AV) (u : Ups) : Prop :=
  ∃ y w' I' β' φ', ((execOp a.eval o).run P w = .ok (.value y) w' ∨ ((execOp a.eval o).run P w = .ok .skip w' ∧ y = undef)) ∧ Rv w' I' β' v y ∧ Conc C { st with ob := updL st.ob u } a w' I' β' φ'
section
variable {C : Cx} {st : St} {a : Act} {w : World} {I : Nat → Prop} {β : Beta} {φ : Nat → List Nat}
theorem Good.op {s : Sem Value} {o : Oper} {v : AV} {u : Ups} (h : Good P C st a w s v u) (ho : execOp a.eval o = (do pure (.value (← s)) : Sem Next)) : GoodOp P C st a w o v u := by
  obtain ⟨y, w', I', β', φ', h1, h2, h3⟩ := h
  refine ⟨y, w', I', β', φ', .inl ?_, h2, h3⟩
  rw [ho]
  simp [h1]
theorem goodOp_value (hC : Conc C st a w I β φ) {o : Oper} {v : AV} {y : Value} (ho : (execOp a.eval o).run P w = .ok (.value y) w) (hv : Rv w I β v y) : GoodOp P C st a w o v [] :=
  ⟨y, w, I, β, φ, .inl ho, hv, hC⟩
theorem Rv0s_map (hE : ∀ x, Rv w I β (ev st x) (a.eval x)) : ∀ (l : List Operand), (∀ x ∈ l, (match ev st x with | .g _ | .s _ | .sl .. | .arr .. | .ptr .. | .eptr .. | .ip _ | .undef => true | _ => false) = true) → Rv0s w I β (l.map (ev st)) (l.map a.eval)
  | [], _ => rfl
  | x :: l, h => by
    refine ⟨_, _, rfl, ?_, Rv0s_map hE l fun y hy => h y (by simp [hy])⟩
    have h1 := h x (by simp)
    have h2 := hE x
    generalize ev st x = v at *
    cases v <;> first | exact h2 | simp at h1
theorem bin_sound (hC : Conc C st a w I β φ) {op : BinOp} {t : TypeId} {x y v : AV} {p q : Value} {c : Prop} {u : Ups} (hx : Rv w I β x p) (hy : Rv w I β y q) (ox oy : Operand)
    (h : aBin P op t x y = some (c, v, u)) (hc : c) : Good P C st a w (do eqGuard op t ox oy p q; binOp op t p q) v u := by
  have guard1 : ∀ (p q : Value), (∀ xs ys, ¬ (p = .agg xs ∧ q = .agg ys)) → ¬ (p = .nilIface ∧ q = .nilIface) → (eqGuard op t ox oy p q).run P w = .ok () w := by
    intro p q h1 h2
    unfold eqGuard
    by_cases hop : (!(match op with | .eql | .neq => true | _ => false)) = true
    · cases op <;> simp at hop <;> simp
    · cases op <;> simp at hop <;> (cases p <;> cases q <;> first | (exact absurd ⟨rfl, rfl⟩ h2) | (exact absurd ⟨rfl, rfl⟩ (h1 _ _)) | simp)
  have lift : ∀ {s : Sem Value}, (eqGuard op t ox oy p q).run P w = .ok () w → Good P C st a w s v u → s = binOp op t p q → Good P C st a w (do eqGuard op t ox oy p q; binOp op t p q) v u := by
    rintro s hg ⟨y, w', I', β', φ', h1, h2, h3⟩ rfl
    exact ⟨y, w', I', β', φ', by simp [hg, h1], h2, h3⟩
  unfold aBin at h
  split at h
  · cases h; cases hx; cases hy
    rename_i k x l y
    refine lift (guard1 _ _ (by simp) (by simp)) (good_pure hC (y := .int k (k.wrap (x * 2 ^ (min y.toNat k.bits)))) ?_ rfl) rfl
    simp [binOp, Op.shift, show ¬ y < 0 by omega]
  · cases h; cases hx; cases hy
    rename_i k x l y
    refine lift (guard1 _ _ (by simp) (by simp)) (good_pure hC (y := .int k (x.fdiv (2 ^ (min y.toNat k.bits)))) ?_ rfl) rfl
    simp [binOp, Op.shift, show ¬ y < 0 by omega]
  · rename_i k x k' y h1 h2
    cases hx; cases hy
    split at h
    · rename_i hk
      subst hk
      exact lift (guard1 _ _ (by simp) (by simp)) (intBin_sound hC h hc t ⟨fun e => by subst e; simp at h1, fun e => by subst e; simp at h2⟩) rfl
    · cases h
  · cases hx; cases hy
    exact lift (guard1 _ _ (by simp) (by simp)) (strBin_sound hC h hc t) rfl
  · cases hx; cases hy
    split at h
    · rename_i ht
      cases h
      exact lift (guard1 _ _ (by simp) (by simp)) (good_pure hC (boolEq_sound ht _ _).1 rfl) rfl
    · cases h
  · cases hx; cases hy
    split at h
    · rename_i ht
      cases h
      exact lift (guard1 _ _ (by simp) (by simp)) (good_pure hC (boolEq_sound ht _ _).2 rfl) rfl
    · cases h
  · rename_i k x l y k' z l' u'
    split at h
    · rename_i hk
      cases h
      simp only [Bool.and_eq_true, decide_eq_true_eq] at hk
      obtain ⟨⟨he, rfl⟩, rfl⟩ := hk
      obtain ⟨_, rfl, _, _, rfl, h1, _, _, rfl, h2, rfl⟩ := hx
      obtain ⟨_, rfl, _, _, rfl, h3, _, _, rfl, h4, rfl⟩ := hy
      cases h1; cases h2; cases h3; cases h4
      have hs := structEq_sound (P := P) (w := w) he k l x y z u'
      obtain ⟨f, g, kf, kg, i, j, hu, -, -, -, -, -, -, -, -, -, hgt⟩ := eq2_spec he
      refine lift ?_ (good_pure hC hs.1 rfl) rfl
      simp [eqGuard, hgt]
    · cases h
  · rename_i k x l y k' z l' u'
    split at h
    · rename_i hk
      cases h
      simp only [Bool.and_eq_true, decide_eq_true_eq] at hk
      obtain ⟨⟨he, rfl⟩, rfl⟩ := hk
      obtain ⟨_, rfl, _, _, rfl, h1, _, _, rfl, h2, rfl⟩ := hx
      obtain ⟨_, rfl, _, _, rfl, h3, _, _, rfl, h4, rfl⟩ := hy
      cases h1; cases h2; cases h3; cases h4
      have hs := structEq_sound (P := P) (w := w) he k l x y z u'
      obtain ⟨f, g, kf, kg, i, j, hu, -, -, -, -, -, -, -, -, -, hgt⟩ := eq2_spec he
      refine lift ?_ (good_pure hC hs.2 rfl) rfl
      simp [eqGuard, hgt]
    · cases h
  · cases h
theorem un_sound (hC : Conc C st a w I β φ) {op : UnOp} {x v : AV} {p : Value} {c : Prop} {u : Ups} (hx : Rv w I β x p) (h : aUn op x = some (c, v, u)) :
    Good P C st a w (Op.unary op p) v u := by
  unfold aUn at h
  split at h
  · cases h; cases hx
    exact good_pure hC (y := .bool (!_)) (by simp [Op.unary]) rfl
  · cases h; cases hx
    rename_i k n
    exact good_pure hC (y := .int k (k.wrap (0 - n))) (by simp [Op.unary, Op.intArith]) rfl
  · cases h; cases hx
    rename_i k n
    exact good_pure hC (y := .int k (k.wrap (BitVec.ofInt k.bits (if k.signed then -1 else k.max) ^^^ BitVec.ofInt k.bits n).toNat)) (by simp only [Op.unary, Op.intBits]; rfl) rfl
  · cases h
theorem numsOf_spec : ∀ (ys : List (List AV)) (ns : List Int), numsOf ys = some ns → ys = ns.map fun n => [.g (.int .u8 n)]
  | [], ns, h => by cases h; rfl
  | x :: r, ns, h => by
    unfold numsOf at h
    split at h
    · rename_i heq; cases heq
    · rename_i n r' heq
      cases heq
      obtain ⟨ns', h1, rfl⟩ := Option.map_eq_some_iff.1 h
      rw [numsOf_spec _ ns' h1]; rfl
    · cases h
theorem conv_sound (hC : Conc C st a w I β φ) {s d : TypeId} {x v : AV} {p : Value} {c : Prop} {u : Ups} (hx : Rv w I β x p) (h : aConv P st s d x = some (c, v, u)) (hcc : c) :
    Good P C st a w (convert s d p) v u := by
  unfold aConv at h
  split at h
  · rename_i S D k n hS hD
    split at h
    · rename_i k1 k2 h1 h2
      cases h; cases hx
      have hs := ti_int hS h1
      have hd := ti_int hD h2
      exact good_pure hC (y := .int k2 (k2.wrap n)) (by simp [convert, run_underlying hs, run_underlying hd, Conv.intToInt]) rfl
    · cases h
  · rename_i S D l hS hD
    split at h
    · rename_i h1 h2
      cases h; cases hx
      have hs := ti_string hS h1
      have hd := ti_string hD h2
      exact good_pure hC (y := .string ⟨l.toArray⟩) (by simp [convert, run_underlying hs, run_underlying hd]) rfl
    · cases h
  · rename_i S D x' hS hD _ _
    split at h
    · rename_i e h1 h2
      split at h
      · rename_i E q ys hE hn
        split at h
        · rename_i ns h3 h4
          cases h
          have hs := ti_slice hS h1
          have hd := ti_string hD h2
          have he := ti_int hE h3
          have hys := numsOf_spec _ _ h4
          rcases news_spec hC hn hcc hx with ⟨rfl, a', cap, rfl⟩ | ⟨b, o, cap, rfl, hr⟩
          · have hns : ns = [] := by
              cases ns with
              | nil => rfl
              | cons _ _ => simp at hys
            subst hns
            refine good_pure hC (y := .string ⟨#[]⟩) ?_ rfl
            rw [run_convert_bytes_string w s d e a' 0 cap hs he hd]
            cases a' with
            | none => simp [Conv.bytesToString]; rfl
            | some a' =>
              have hl := run_loadCells_list (P := P) w a' [] (fun j v hj => by simp at hj)
              have := run_bytesToString (P := P) w a' 0 cap [] (by simpa using hl)
              rw [this]; rfl
          · refine good_pure hC (y := .string (strOfNums ns)) ?_ rfl
            have hlen : ns.length = ys.length := by rw [hys]; simp
            refine run_convert_bytes_arg w s e hs he b o ys.length cap ns hlen ?_ d hd
            intro i hi
            obtain ⟨-, g2⟩ := RIe_get ys o i ys[i] hr (List.getElem?_eq_getElem hi)
            have hi2 : i < ns.length := by omega
            have hyi : ys[i] = [.g (.int .u8 (ns.getD i 0))] := by
              have : ys[i]? = (ns.map fun n => [AV.g (.int .u8 n)])[i]? := by rw [← hys]
              rw [List.getElem?_eq_getElem hi, List.getElem?_map, List.getElem?_eq_getElem hi2] at this
              simp only [Option.map_some, Option.some.injEq] at this
              rw [this]
              simp [List.getD, List.getElem?_eq_getElem hi2]
            rw [hyi] at g2
            rw [RIc] at g2
            obtain ⟨⟨z, hz, hrz⟩, -⟩ := g2
            rw [RI] at hrz
            rw [← hrz.1]
            simpa using hz
        · cases h
      · cases h
    · cases h
  · cases h
end
end Go.Proofs.Ytpaccfeiaekacaa.Vs
namespace Go.Proofs.Ytpaccfeiaekacaa.Vs
set_option linter.unusedVariables false
set_option linter.unusedSimpArgs false
set_option linter.unusedSectionVars false
set_option linter.unnecessarySimpa false
set_option linter.all false
open Go.RowKit
variable {P : Program}
section
variable {C : Cx} {st : St} {a : Act} {w : World} {I : Nat → Prop} {β : Beta} {φ : Nat → List Nat}
theorem aop_sound (hC : Conc C st a w I β φ) {nm : Nat} {o : Oper} {v : AV} {c : Prop} {u : Ups} (h : aop P st nm o.op = some (c, v, u)) (hc : c) : GoodOp P C st a w o v u := by
  have hE : ∀ x, Rv w I β (ev st x) (a.eval x) := Rv_eval hC.env
  have hun : ∀ (n : Nat), (st.ob n).isNone = true → st.ob n = none := fun n h => by simpa using h
  obtain ⟨dst, op, type, pos, aft, gd⟩ := o
  simp only at h
  unfold aop at h
  split at h
  · cases h; exact goodOp_value hC (by simp [execOp]) (hE _)
  · cases h; exact goodOp_value hC (by simp [execOp]) (hE _)
  · -- pick
    rename_i cc x y
    split at h
    · rename_i b hb
      cases h
      have h1 := hE cc
      rw [hb] at h1
      change a.eval cc = _ at h1
      cases b
      · exact goodOp_value hC (by simp [execOp, h1, asBool]) (hE y)
      · exact goodOp_value hC (by simp [execOp, h1, asBool]) (hE x)
    · cases h
  · -- alloc
    split at h
    · rename_i T hT
      cases h
      exact (alloc_sound hC hT (hun _ hc.1)).op rfl
    · cases h
  · -- box
    rename_i t x
    split at h
    · rename_i T cs hT hcs
      cases h
      have hx := hE x
      have hr : Rv1s w I β cs (a.eval x).cells.toList := (valCells_spec hcs hx hc.2).1
      exact (newVar_sound (P := P) hC (hun _ hc.1) t (a.eval x) hr).op rfl
    · cases h
  · exact (build_sound hC (by simpa using parts_rel hE _) h).op rfl
  · exact (buildSlice_sound hC (by simpa using parts_rel hE _) h hc).op rfl
  · -- load
    obtain ⟨rfl, y, hy, hr⟩ := load_sound hC (hE _) h hc
    exact goodOp_value hC (by simp [execOp, hy]) hr
  · -- store
    obtain ⟨rfl, w', I', φ', hr, hC'⟩ := store_sound hC (hE _) (hE _) h hc
    exact ⟨undef, w', I', β, φ', .inr ⟨by simp [execOp, hr], rfl⟩, rfl, hC'⟩
  · -- nilCheck
    rename_i x
    have hx := hE x
    split at h
    · rename_i hv
      cases h
      rw [hv] at hx
      obtain ⟨bl, hb, hp⟩ := hx
      exact goodOp_value hC (by simp [execOp, hp]) ⟨bl, hb, rfl⟩
    · rename_i hv
      cases h
      rw [hv] at hx
      obtain ⟨bl, hb, hp⟩ := hx
      exact goodOp_value hC (by simp [execOp, hp]) ⟨bl, hb, rfl⟩
    · rename_i hv
      cases h
      rw [hv] at hx
      obtain ⟨b, o, hp, hr⟩ := hx
      exact goodOp_value hC (by simp [execOp, hp]) ⟨b, o, rfl, hr⟩
    · rename_i hv
      cases h
      rw [hv] at hx
      obtain ⟨vs, us, hp, hr⟩ := hx
      exact goodOp_value hC (by simp [execOp, hp]) ⟨vs, us, rfl, hr⟩
    · cases h
  · exact (bin_sound hC (hE _) (hE _) _ _ h hc).op rfl
  · exact (un_sound hC (hE _) h).op rfl
  · exact (conv_sound hC (hE _) h hc).op rfl
  · -- makeFunc
    rename_i f first captured
    cases h
    have h1 := Rv0s_map hE first.toList (fun x hx => List.all_eq_true.1 hc.1 _ (List.mem_map_of_mem hx))
    have h2 := Rv0s_map hE captured.toList (fun x hx => List.all_eq_true.1 hc.2 _ (List.mem_map_of_mem hx))
    exact goodOp_value hC (y := .func (.func f) (first.map a.eval) (captured.map a.eval)) (by simp [execOp, Instr.makeFunc]) ⟨_, _, by congr 1 <;> (apply Array.ext'; simp), h1, h2⟩
  · exact (makeSlice_sound hC (hE _) (hE _) h hc).op rfl
  · -- slice
    have hO : ∀ x : Option Operand, RvO w I β (x.map (ev st)) (x.map a.eval) := by
      intro x
      cases x with
      | none => rfl
      | some x => exact ⟨_, rfl, hE x⟩
    exact (slice_sound hC (hE _) (hO _) (hO _) h hc).op rfl
  · exact (fieldAddr_sound hC (hE _) h).op rfl
  · exact (field_sound hC (hE _) h).op rfl
  · exact (indexAddr_sound hC (hE _) (hE _) h hc).op rfl
  · exact (index_sound hC (hE _) (hE _) h hc).op rfl
  · -- extract
    rename_i x i
    have hx := hE x
    split at h
    · rename_i vs hv
      rw [hv] at hx
      obtain ⟨ws, hp, hr⟩ := hx
      split at h
      · rename_i y hy
        cases h
        have : ∀ (vs : List AV) (ws : List Value) (i : Nat), Rv2s w I β vs ws → vs[i]? = some v → ∃ z, ws[i]? = some z ∧ Rv2 w I β v z := by
          intro vs
          induction vs with
          | nil => intro ws i _ h; simp at h
          | cons c cs ih =>
            rintro _ i ⟨z, zs, rfl, h1, h2⟩ h
            cases i with
            | zero => simp at h; subst h; exact ⟨z, rfl, h1⟩
            | succ i => simpa using ih zs i h2 (by simpa using h)
        obtain ⟨z, hz, hrz⟩ := this _ _ _ hr hy
        exact goodOp_value hC (y := z) (by simp [execOp, hp, Instr.extract, hz]) (Rv2_Rv _ _ hrz)
      · cases h
    · cases h
  · cases h
end
end Go.Proofs.Ytpaccfeiaekacaa.Vs

import Derived.Test.YtpaccfeiaekacaaVsZE
import Derived.OpenShut
namespace Go.Proofs.Ytpaccfeiaekacaa.Vs
set_option linter.unusedVariables false
set_option linter.unusedSimpArgs false
set_option linter.unusedSectionVars false
set_option linter.unnecessarySimpa false
set_option linter.all false
open Go.RowKit Go.ChangeShapes Go.WideShapes
variable {P : Program}
def argA (P : Program) (t : TypeId) (cs : List AV) : AV := match P.underlying t with
  | some (.struct _) => .agg cs
  | _ => cs.headD .undef
def shpA (P : Program) (n : Nat) : List TypeId → List AV → Prop
  | [], l => l = []
  | t :: ts, l => ∃ cs l', l = argA P t cs :: l' ∧ shp P n t cs ∧ shpA P n ts l'
section
variable {H : Type} {enc : TypeId × Value → H}
theorem RIl_Rv1s {w : World} {I : Nat → Prop} {β : Beta} : ∀ (cs : List AV) (vs : List Value), RIl w I cs vs → Rv1s w I β cs vs
  | [], _, h => h
  | c :: cs, _, ⟨v, vs', h1, h2, h3⟩ => ⟨v, vs', h1, RI_Rv1 c v h2, RIl_Rv1s cs vs' h3⟩
theorem RI_Rv2 {w : World} {I : Nat → Prop} {β : Beta} (c : AV) (v : Value) (h : RI w I c v) : Rv2 w I β c v := by
  have := RI_Rv1 (β := β) c v h
  cases c with
  | agg cs => simp [RI] at h
  | _ => exact this
theorem notAgg {w : World} {r : Reach} {b : Nat} {t : TypeId} {d : TypeDesc} {v : Value} (hu : P.underlying t = some d) (hd : d = .bool ∨ (∃ k, d = .int k) ∨ d = .string ∨ ∃ e, d = .slice e) (h : Value.okWide P w r b t v) : v.cells.toList = [v] := by
  cases v with
  | agg cs =>
    exfalso
    unfold Value.okWide at h
    rw [hu] at h
    rcases hd with rfl | ⟨k, rfl⟩ | rfl | ⟨e, rfl⟩ <;> simp [Cell.okWide, Cell.ok, hu] at h
  | _ => rfl
theorem arg_open {w : World} {n : Nat} {t : TypeId} {v : Value} {d : DataW H} {ps : List MemPlace} {r : Reach} {b : Nat} {spare : Nat → Bool} {held : Bool} (hok : okT P n t = true) (hv : Value.okWide P w r b t v) (h : DataW.Trod enc P w 0 spare held t v d ps) :
    ∃ cs, shp P n t cs ∧ Rv2 w (fun b => b < w.heap.size) (fun _ => none) (argA P t cs) v := by
  obtain ⟨fuel, h⟩ := h
  obtain ⟨cs, h1, h2⟩ := trod_open n fuel t _ _ hok h
  refine ⟨cs, h1, ?_⟩
  cases n with
  | zero => simp [okT] at hok
  | succ n =>
    unfold okT at hok
    cases hu : P.underlying t with
    | none => rw [hu] at hok; simp at hok
    | some d =>
      rw [hu] at hok
      have one : (d = .bool ∨ (∃ k, d = .int k) ∨ d = .string ∨ ∃ e, d = .slice e) → Rv2 w (fun b => b < w.heap.size) (fun _ => none) (cs.headD .undef) v := by
        intro hd
        rw [notAgg hu hd hv] at h2
        match cs, h2 with
        | [c], ⟨x, xs, he, h3, h4⟩ => cases he; exact RI_Rv2 c v h3
        | c :: c' :: cs, ⟨x, xs, he, h3, ⟨y, ys, he', _⟩⟩ => subst he'; simp at he
      unfold argA
      rw [hu]
      cases d with
      | struct fs =>
        simp only
        unfold Value.okWide at hv
        rw [hu] at hv
        obtain ⟨us, rfl, -⟩ := hv
        exact ⟨us.toList, rfl, RIl_Rv1s _ _ h2⟩
      | bool => exact one (.inl rfl)
      | int k => exact one (.inr (.inl ⟨k, rfl⟩))
      | string => exact one (.inr (.inr (.inl rfl)))
      | slice e => exact one (.inr (.inr (.inr ⟨e, rfl⟩)))
      | _ => simp at hok
theorem args_open {w : World} {n : Nat} {r : Reach} {b : Nat} {spare : Nat → Bool} {held : Bool} : ∀ (ts : List TypeId) (vs : List Value) (ds : List (DataW H)) (ps : List MemPlace), ts.all (okT P n) = true → (∀ (j : Nat) t v, ts[j]? = some t → vs[j]? = some v → Value.okWide P w r b t v) →
    DataW.TrodAll enc P w 0 spare held ts vs ds ps → ∃ l, shpA P n ts l ∧ Rv2s w (fun b => b < w.heap.size) (fun _ => none) l vs
  | [], vs, ds, ps, _, _, h => by
    obtain ⟨rfl, -, -⟩ := trodAll_nil h
    exact ⟨[], rfl, rfl⟩
  | t :: ts, vs, ds, ps, hok, hv, h => by
    obtain ⟨v, vs', d, ds', p, q, rfl, rfl, rfl, h1, h2⟩ := trodAll_cons h
    simp only [List.all_cons, Bool.and_eq_true] at hok
    obtain ⟨cs, h3, h4⟩ := arg_open hok.1 (hv 0 t v rfl rfl) h1
    obtain ⟨l, h5, h6⟩ := args_open ts vs' ds' q hok.2 (fun j t v h h' => hv (j + 1) t v (by simpa using h) (by simpa using h')) h2
    exact ⟨_, ⟨cs, l, rfl, h3, h5⟩, v, vs', rfl, h4, h6⟩
theorem below_trodAll (hl : laidOutB P = true) {W W' : World} (hb : Below W.heap.size W W') : ∀ (ts : List TypeId) (vs : List Value) (ds : List (DataW H)) (ps : List MemPlace), (∀ t ∈ ts, P.readableRec t = true ∧ t < P.types.size) → (∀ p ∈ ps, p.block < W.heap.size) →
    DataW.TrodAll enc P W 0 (fun _ => true) true ts vs ds ps → DataW.TrodAll enc P W' 0 (fun b => decide (b < W.heap.size)) true ts vs ds ps
  | [], vs, ds, ps, _, _, h => by
    obtain ⟨rfl, rfl, rfl⟩ := trodAll_nil h
    exact trodAll_mk0
  | t :: ts, vs, ds, ps, ht, hp, h => by
    obtain ⟨v, vs', d, ds', p, q, rfl, rfl, rfl, h1, h2⟩ := trodAll_cons h
    exact trodAll_cons_mk (Below.trod hl (ht t (by simp)).1 (ht t (by simp)).2 h1 hb fun x hx => hp x (by simp [hx]))
      (below_trodAll hl hb ts vs' ds' q (fun t h => ht t (by simp [h])) (fun x hx => hp x (by simp [hx])) h2)
/-- A LAW that only reads: from its contract to what the given statement's form asks. -/
theorem law_post {s : ChangeSpec} {f : FuncId} {fn : Func} {n tb : Nat} (hvars : s.vars = []) (hl : laidOutB P = true) (hps : fn.params.toList.all (okT P n) = true) (hrd : ∀ t ∈ fn.params.toList, P.readableRec t = true ∧ t < P.types.size)
    (hres : fn.resultTypes = #[tb]) (htb : P.underlying tb = some .bool) (hs : ∀ ds : List (DataW H), ds.length = fn.params.toList.length → (s.fn H (ds ++ [])).results = [.lit (.bool true)] ∧ (s.fn H (ds ++ [])).args = ds ∧ (s.fn H (ds ++ [])).vars = [])
    (walk : ∀ l, shpA P n fn.params.toList l → PCall P f l (.g (.bool true))) {W : World} {base : Nat} {args : Array Value} {ds gs : List (DataW H)} {before : List MemPlace}
    (hval : ∀ (j : Nat) t v, fn.params[j]? = some t → args[j]? = some v → Value.okWide P W .any base t v) (hW : DataW.Whole enc P fn.params.toList s.vars false W args.toList ds gs before) :
    Calls P f args W fun e W' => ∃ v, e = .returned v ∧ s.post enc P fn false true false false W args v W' := by
  have hW0 := hW
  have hlt := fun p hp => hW.lt p hp
  obtain ⟨p, q, hA, hV, rfl, hfz, -⟩ := hW
  rw [hvars] at hV
  obtain ⟨rfl, rfl⟩ := trodVars_none hV
  obtain ⟨l, h1, h2⟩ := args_open fn.params.toList args.toList ds p hps (fun j t v h h' => hval j t v (by simpa using h) (by simpa using h')) hA
  have hc := (walk l h1).2 W _ _ args.toList (fun b hb => hb) h2 (by simp) (fun _ _ => rfl) (by simp) (by simp) (by simp)
  have hdl : ds.length = fn.params.toList.length := by
    have : ∀ (ts : List TypeId) (vs : List Value) (ds : List (DataW H)) (ps : List MemPlace), DataW.TrodAll enc P W 0 (fun _ => true) true ts vs ds ps → ds.length = ts.length := by
      intro ts
      induction ts with
      | nil => intro vs ds ps h; obtain ⟨-, rfl, -⟩ := trodAll_nil h; rfl
      | cons t ts ih =>
        intro vs ds ps h
        obtain ⟨v, vs', d, ds', p, q, rfl, rfl, rfl, -, h2⟩ := trodAll_cons h
        simp [ih _ _ _ h2]
    exact this _ _ _ _ hA
  obtain ⟨e1, e2, e3⟩ := hs ds hdl
  refine Calls.mono hc ?_
  rintro e W' ⟨v, I', rfl, hev, -, -, hr, -⟩
  have hv : v = .bool true := hr
  subst hv
  have hb : Below W.heap.size W W' := ⟨hev.os, hev.tape, hev.output, hev.size, fun k hk => hev.blk k hk (by rintro ⟨i, bl, h, -⟩; simp at h)⟩
  refine ⟨_, rfl, ds, [], p ++ [], [], p, [], hW0, ?_, ?_, ?_, hb.frame _, fun h => by cases h⟩
  · rw [hres, e1]
    exact trodAll_cons_mk (shut_bool htb _) trodAll_mk0
  · rw [e2]
    exact below_trodAll hl hb _ _ _ _ hrd (fun x hx => hlt x (by simpa using hx)) hA
  · rw [e3, hvars]
    rfl
end
end Go.Proofs.Ytpaccfeiaekacaa.Vs

import Derived.Test.YtpaccfeiaekacaaVsXB
import Derived.Test.YtpaccfeiaekacaaVsZK
namespace Go.Proofs.Ytpaccfeiaekacaa.Vs
set_option linter.unusedVariables false
set_option linter.unusedSimpArgs false
set_option linter.unusedSectionVars false
set_option linter.unnecessarySimpa false
set_option linter.all false
open Go.RowKit
variable {P : Program}
/-! ### Regions of functions that make rows of their own -/
def orE (a b : ARes) : ARes := match a with
  | some r => some r
  | none => b
theorem orE_some (r : Prop × AV × Ups) (b : ARes) : orE (some r) b = some r := (rfl)
theorem orE_none (b : ARes) : orE none b = b := (rfl)
def aopX (P : Program) (st : St) (nm : Nat) (o : Op) : ARes :=
  match o with
  | .store t x v => orE (aStore P st t (ev st x) (ev st v)) (aStoreW P st t (ev st x) (ev st v))
  | .buildSlice t len ps => orE (aBuildSlice P st nm t len (parts st ps.toList)) (aBuildSliceW P st nm t len (parts st ps.toList))
  | o => aop P st nm o
def aBuiltinX (P : Program) (st : St) (nm : Nat) (b : Builtin) (ts : List TypeId) (args : List AV) : ARes :=
  match b, args with
  | .append, [s, x] => orE (aAppend P st nm ts s x) (aAppendW P st nm ts s x)
  | b, args => aBuiltin P st nm b ts args
/-- Names for empty rows. -/
def zU (Z : List (Nat × Nat)) : Ups := Z.map fun z => (z.1, .own z.2 [])
def addZ (st : St) (Z : List (Nat × Nat)) : St := { st with ob := updL st.ob (zU Z) }
theorem Conc.newEmptyO {C : Cx} {st : St} {a : Act} {w : World} {I : Nat → Prop} {β : Beta} {φ : Nat → List Nat} (hC : Conc C st a w I β φ) {nm sz : Nat} (hn : st.ob nm = none) :
    Conc C { st with ob := upd st.ob nm (some (.own sz [])) } a w I (upd β nm (some ⟨0, 0, sz, 0⟩)) φ := by
  have hdom : ∀ m, upd st.ob nm (some (OB.own sz [])) m = none → m ≠ nm ∧ st.ob m = none := by
    intro m ho
    by_cases h1 : m = nm
    · subst h1; simp [upd_same] at ho
    · rw [upd_other _ _ h1] at ho; exact ⟨h1, ho⟩
  refine hC.move (fun _ => False) (Evo.refl _ w) (fun _ hf => hf.elim) (fun _ hb => hb) (fun _ hb => .inl hb) ?_ ?_ ?_ ?_ hC.sep hC.nimm hC.flt ?_ ?_
  · intro m bl' hb
    rw [upd_other]
    · exact hb
    · rintro rfl; rw [hC.dom _ hn] at hb; cases hb
  · intro m o ho
    by_cases h1 : m = nm
    · subst h1
      simp only [upd_same, Option.some.injEq] at ho
      subst ho
      exact .inr ⟨_, upd_same _ _ _, rfl, rfl, by simp, by rw [hC.fdom _ hn]; simp, .inl ⟨rfl, hC.fdom _ hn⟩⟩
    · rw [upd_other _ _ h1] at ho
      exact .inl ⟨ho, rfl, fun _ _ hf => hf⟩
  · intro m ho
    rw [upd_other _ _ (hdom m ho).1]; exact hC.dom m (hdom m ho).2
  · intro m ho
    exact hC.fdom m (hdom m ho).2
  · intro m cs ho hwr b hb
    by_cases h1 : m = nm
    · subst h1; rw [hC.fdom _ hn] at hb; simp at hb
    · rw [upd_other _ _ h1] at ho
      exact hC.wok m cs ho hwr b hb
  · intro m s ys ho b hb
    by_cases h1 : m = nm
    · subst h1; rw [hC.fdom _ hn] at hb; simp at hb
    · rw [upd_other _ _ h1] at ho
      exact hC.fnew m _ _ ho b hb
theorem addZ_conc {C : Cx} {a : Act} {w : World} {I : Nat → Prop} {φ : Nat → List Nat} : ∀ (Z : List (Nat × Nat)) (st : St) (β : Beta), Conc C st a w I β φ → (Z.map (·.1)).Nodup → (∀ z ∈ Z, st.ob z.1 = none) →
    ∃ β', (∀ n bl, β n = some bl → β' n = some bl) ∧ Conc C (addZ st Z) a w I β' φ ∧ ∀ n ∈ Z.map (·.1), ∃ bl, β' n = some bl ∧ bl.cap = 0
  | [], st, β, hC, _, _ => ⟨β, fun _ _ h => h, hC, by simp⟩
  | z :: Z, st, β, hC, hnd, hn => by
    simp only [List.map_cons, List.nodup_cons] at hnd
    have h1 := hC.newEmptyO (sz := z.2) (hn z (by simp))
    obtain ⟨β', h2, h3, h4⟩ := addZ_conc Z _ _ h1 hnd.2 (fun y hy => by
      show upd st.ob z.1 _ y.1 = none
      rw [upd_other]
      · exact hn y (by simp [hy])
      · intro e; exact hnd.1 (List.mem_map.2 ⟨y, hy, e⟩))
    refine ⟨β', fun n bl hb => h2 n bl ?_, h3, fun n hm => ?_⟩
    · rw [upd_other]
      · exact hb
      · rintro rfl; rw [hC.dom _ (hn z (by simp))] at hb; cases hb
    · rcases List.mem_cons.1 hm with rfl | hm
      · exact ⟨_, h2 _ _ (upd_same _ _ _), rfl⟩
      · exact h4 n hm
/-- A call that may hand on rows to be written and bring new ones. -/
def XStep (P : Program) (st : St) (nm : Nat) (f : FuncId) (actual : List AV) (v : AV) (u : Ups) : Prop :=
  ∃ (args : List AV) (wos : List OB) (r : AV) (wos' fos : List OB) (hs : List Nat) (q : Bool) (Z : List (Nat × Nat)), XCall P f args wos r wos' fos ∧ (Z.map (·.1)).Nodup ∧ (∀ z ∈ Z, st.ob z.1 = none) ∧ (hs ++ (List.range fos.length).map (nm + ·)).Nodup ∧
    ax2s q (addZ st Z) hs (Z.map (·.1)) actual args ∧ axOs q (addZ st Z) hs (Z.map (·.1)) hs wos ∧
    (∀ k, k < fos.length → (addZ st Z).ob (nm + k) = none) ∧ rkT q r = true ∧ (wos' ++ fos).all (rkO q) = true ∧ v = rnT (rhoX hs nm) r ∧ u = zU Z ++ upsX hs nm wos' fos
def xreg (P : Program) : List CO → St → (St → Prop) → Prop
  | [], st, K => K st
  | c :: rest, st, K =>
    let R : St → ARes → Prop := fun st r => match r with
      | some (p, v, u) => p ∧ xreg P rest (putC st c.dst v u) K
      | none => False
    let O : St → Prop := fun st => match c.op with
      | .call cl => match cl.callee with
        | .builtin b => R st (aBuiltinX P st (nmC c.dst) b cl.argTypes.toList (cl.args.toList.map (ev st)))
        | .value f => match ev st f with
          | .fn fid fst cap => ∃ v u, (GStep P st fid (fst ++ cl.args.toList.map (ev st) ++ cap) v u ∨ XStep P st (nmC c.dst) fid (fst ++ cl.args.toList.map (ev st) ++ cap) v u) ∧ xreg P rest (putC st c.dst v u) K
          | _ => False
        | .invoke _ _ => False
      | op => R st (aopX P st (nmC c.dst) op)
    match c.gd with
    | none => O st
    | some (d, want) => match st.env d with
      | .g (.bool b) => spl b want (O { st with env := upd st.env d (.g (.bool want)) }) (xreg P rest (putC { st with env := upd st.env d (.g (.bool (!want))) } c.dst (.g undef) []) K)
      | .g (.tuple vs) => vs.size = 0 ∧ xreg P rest (putC st c.dst (.g undef) []) K
      | _ => False
def xR (P : Program) (rest : List CO) (K : St → Prop) (st : St) (dst : Option Nat) (r : ARes) : Prop := match r with
  | some (p, v, u) => p ∧ xreg P rest (putC st dst v u) K
  | none => False
/-- A call. -/
def XKd (P : Program) (rest : List CO) (K : St → Prop) (st : St) (dst : Option Nat) (f : FuncId) (actual : List AV) : Prop :=
  ∃ v u, (GStep P st f actual v u ∨ XStep P st (nmC dst) f actual v u) ∧ xreg P rest (putC st dst v u) K
def xO (P : Program) (rest : List CO) (K : St → Prop) (st : St) (dst : Option Nat) (op : Op) : Prop := match op with
  | .call cl => match cl.callee with
    | .builtin b => xR P rest K st dst (aBuiltinX P st (nmC dst) b cl.argTypes.toList (cl.args.toList.map (ev st)))
    | .value f => match ev st f with
      | .fn fid fst cap => XKd P rest K st dst fid (fst ++ cl.args.toList.map (ev st) ++ cap)
      | _ => False
    | .invoke _ _ => False
  | op => xR P rest K st dst (aopX P st (nmC dst) op)
def xG (P : Program) (rest : List CO) (K : St → Prop) (st : St) (dst : Option Nat) (op : Op) (d : Nat) (want : Bool) (x : AV) : Prop := match x with
  | .g (.bool b) => spl b want (xO P rest K { st with env := upd st.env d (.g (.bool want)) } dst op) (xreg P rest (putC { st with env := upd st.env d (.g (.bool (!want))) } dst (.g undef) []) K)
  | .g (.tuple vs) => vs.size = 0 ∧ xreg P rest (putC st dst (.g undef) []) K
  | _ => False
theorem xreg_nil (st : St) (K : St → Prop) : xreg P [] st K = K st := (rfl)
theorem xreg_op (dst : Option Nat) (op : Op) (rest : List CO) (st : St) (K : St → Prop) : xreg P (⟨dst, op, none⟩ :: rest) st K = xO P rest K st dst op := (rfl)
theorem xreg_gd (dst : Option Nat) (op : Op) (d : Nat) (want : Bool) (rest : List CO) (st : St) (K : St → Prop) : xreg P (⟨dst, op, some (d, want)⟩ :: rest) st K = xG P rest K st dst op d want (st.env d) := (rfl)
theorem xG_bool (rest : List CO) (K : St → Prop) (st : St) (dst : Option Nat) (op : Op) (d : Nat) (want b : Bool) : xG P rest K st dst op d want (.g (.bool b)) = spl b want (xO P rest K { st with env := upd st.env d (.g (.bool want)) } dst op) (xreg P rest (putC { st with env := upd st.env d (.g (.bool (!want))) } dst (.g undef) []) K) := (rfl)
theorem xG_undef (rest : List CO) (K : St → Prop) (st : St) (dst : Option Nat) (op : Op) (d : Nat) (want : Bool) : xG P rest K st dst op d want (.g undef) = xreg P rest (putC st dst (.g undef) []) K := by
  show ((#[] : Array Value).size = 0 ∧ _) = _
  simp
section
variable {C : Cx} {st : St} {a : Act} {w : World} {I : Nat → Prop} {β : Beta} {φ : Nat → List Nat}
theorem aopX_sound (hC : Conc C st a w I β φ) {nm : Nat} {o : Oper} {v : AV} {c : Prop} {u : Ups} (h : aopX P st nm o.op = some (c, v, u)) (hc : c) : GoodOp P C st a w o v u := by
  have hE : ∀ x, Rv w I β (ev st x) (a.eval x) := Rv_eval hC.env
  obtain ⟨dst, op, type, pos, aft, gd⟩ := o
  simp only at h
  cases op with
  | store t x y =>
    simp only [aopX] at h
    cases h1 : aStore P st t (ev st x) (ev st y) with
    | some r =>
      rw [h1] at h
      exact aop_sound (nm := nm) hC (o := ⟨dst, .store t x y, type, pos, aft, gd⟩) (h1.trans h) hc
    | none =>
      rw [h1] at h
      obtain ⟨rfl, w', I', φ', hr, hC'⟩ := storeW_sound hC (hE _) (hE _) h hc
      exact ⟨undef, w', I', β, φ', .inr ⟨by simp [execOp, hr], rfl⟩, rfl, hC'⟩
  | buildSlice t len ps =>
    simp only [aopX] at h
    cases h1 : aBuildSlice P st nm t len (parts st ps.toList) with
    | some r =>
      rw [h1] at h
      exact aop_sound (nm := nm) hC (o := ⟨dst, .buildSlice t len ps, type, pos, aft, gd⟩) (h1.trans h) hc
    | none =>
      rw [h1] at h
      exact (buildSliceW_sound hC (by simpa using parts_rel hE _) h hc).op rfl
  | _ => exact aop_sound (nm := nm) hC (o := ⟨dst, _, type, pos, aft, gd⟩) h hc
theorem builtinX_sound (hC : Conc C st a w I β φ) {nm : Nat} {b : Builtin} {ts : List TypeId} {args : List Operand} {o : Oper} {v : AV} {c : Prop} {u : Ups} {tsA : Array TypeId} {argsA : Array Operand} (hts : tsA.toList = ts) (hargs : argsA.toList = args)
    (ho : o.op = .call { callee := .builtin b, args := argsA, argTypes := tsA }) (h : aBuiltinX P st nm b ts (args.map (ev st)) = some (c, v, u)) (hc : c) : GoodOp P C st a w o v u := by
  have hE : ∀ x, Rv w I β (ev st x) (a.eval x) := Rv_eval hC.env
  generalize hL : args.map (ev st) = L at h
  unfold aBuiltinX at h
  split at h
  · rename_i s x
    cases h1 : aAppend P st nm ts s x with
    | some r =>
      rw [h1] at h
      exact builtin_sound (nm := nm) hC hts hargs ho (by rw [hL]; exact h1.trans h) hc
    | none =>
      rw [h1] at h
      obtain ⟨dst, op, type, pos, aft, gd⟩ := o
      simp only at ho
      subst ho
      obtain ⟨y, z, rfl, rfl, rfl⟩ := map_eq2 hL
      have ha : argsA = #[y, z] := by apply Array.ext'; exact hargs
      subst ha
      have := (appendW_sound (ty := type) hC (hE y) (hE z) h hc)
      have htA : tsA = ts.toArray := by apply Array.ext'; simpa using hts
      rw [← htA] at this
      exact this.op (by simp [execOp, resolve, invoke, builtin])
  · exact builtin_sound (nm := nm) hC hts hargs ho (by rw [hL]; exact h) hc
theorem xop_sound {o : Oper} {rest : List CO} {K : St → Prop} {Kx : Act → World → Prop} {Q : Exit → Act → World → Prop} (hd : ∀ d, o.dst = some d → d < C.nt) (hC : Conc C st a w I β φ) (h : xO P rest K st o.dst o.op)
    (hK : ∀ v u a' w', xreg P rest (putC st o.dst v u) K → CC C (putC st o.dst v u) a' w' → Kx a' w') : o.wp P a w Kx Q := by
  have hE : ∀ x, Rv w I β (ev st x) (a.eval x) := Rv_eval hC.env
  have good : ∀ v u, GoodOp P C st a w o v u → xreg P rest (putC st o.dst v u) K → o.wp P a w Kx Q := by
    rintro v u ⟨y, w', I', β', φ', hr, hv, hC'⟩ hk
    have hcc : CC C (putC st o.dst v u) (a.put o.dst y) w' := by
      refine ⟨I', β', φ', ?_⟩
      unfold putC
      cases hdst : o.dst with
      | none => exact hC'
      | some d => exact hC'.put (hd d hdst) hv
    rcases hr with hr | ⟨hr, rfl⟩
    · unfold Oper.wp; rw [hr]; exact hK _ _ _ _ hk hcc
    · unfold Oper.wp; rw [hr]; exact hK _ _ _ _ hk hcc
  have fin : ∀ r : ARes, xR P rest K st o.dst r → (∀ c v u, r = some (c, v, u) → c → GoodOp P C st a w o v u) → o.wp P a w Kx Q := by
    intro r h hg
    match r, h with
    | some (p, v, u), h => exact good v u (hg p v u rfl h.1) h.2
  obtain ⟨dst, op, ty, pos, aft, gd⟩ := o
  unfold xO at h
  cases op with
  | call c =>
    obtain ⟨callee, args, argTypes⟩ := c
    simp only at h
    cases callee with
    | invoke _ _ => exact h.elim
    | builtin b => exact fin _ h fun c v u h1 h2 => builtinX_sound hC rfl rfl rfl h1 h2
    | value f =>
      simp only at h
      split at h
      · rename_i fid fst cap hfe
        obtain ⟨v, u, h1, h2⟩ := h
        have hnt : ∀ x ∈ args.toList, ∀ vs, ev st x ≠ .tup vs := by
          intro x hx vs
          have hm : ev st x ∈ fst ++ args.toList.map (ev st) ++ cap := by simp; exact .inr (.inl ⟨x, by simpa using hx, rfl⟩)
          rcases h1 with ⟨rns, wns, args', ros, wos, wos', -, -, -, -, -, -, ham, -⟩ | ⟨args', wos, r, wos', fos, hs, q, Z, -, -, -, -, ham, -⟩
          · exact am2s_noTup _ _ ham _ hm vs
          · exact ax2s_noTup _ _ ham _ hm vs
        have hfn : ∃ fn, P.funcs[fid]? = some fn ∧ (fn.name == "runtime.NumGoroutine") = false ∧ fn.body.isNone = false := by
          rcases h1 with ⟨rns, wns, args', ros, wos, wos', ⟨h, -⟩, -⟩ | ⟨args', wos, r, wos', fos, hs, q, Z, ⟨h, -⟩, -⟩
          · exact h
          · exact h
        obtain ⟨fn, hfn, hname, hbody⟩ := hfn
        have hfv := hE f
        rw [hfe] at hfv
        obtain ⟨fs, us, hfv, g1, g2⟩ := hfv
        have hvs := Rv2s_append _ _ _ _ (Rv2s_append _ _ _ _ (Rv0s_Rv2s _ _ g1) (Rv2s_eval hE args.toList hnt)) (Rv0s_Rv2s _ _ g2)
        have hcall : Calls P fid ⟨fs ++ args.toList.map a.eval ++ us⟩ w fun e w' => ∃ y I' β' φ', e = .returned y ∧ Rv w' I' β' v y ∧ Conc C { st with ob := updL st.ob u } a w' I' β' φ' := by
          rcases h1 with h1 | ⟨args', wos, r, wos', fos, hs, q, Z, hX, hz1, hz2, hnd, ham, hobj, hnm, hr, hro, rfl, rfl⟩
          · exact gstep_sound hC hvs h1
          · obtain ⟨β2, g1, g2, g3⟩ := addZ_conc Z st β hC hz1 hz2
            rw [updL_append]
            exact xstep_sound g2 g3 (Rv2s_mono (fun _ h => h) (fun _ _ => rfl) g1 _ _ hvs) hX hnd ham hobj hnm hr hro
        unfold Oper.wp
        have hrun : (execOp a.eval ⟨dst, .call { callee := .value f, args, argTypes }, ty, pos, aft, gd⟩).run P w = .ok (.enter fid ⟨fs ++ args.toList.map a.eval ++ us⟩) w := by
          simp only [execOp, resolve, hfv, Deferred.ofValue, Sem.run_bind, Sem.run_pure, Result.andThen_ok, invoke, callFunc, run_program, hfn, hname, hbody]
          simp
        rw [hrun]
        refine hcall.mono ?_
        rintro e w' ⟨y, I', β', φ', rfl, hy, hC'⟩
        refine hK v u _ _ h2 ⟨I', β', φ', ?_⟩
        unfold putC
        cases dst with
        | none => exact hC'
        | some d => exact hC'.put (hd d rfl) hy
      · exact h.elim
  | _ => exact fin _ h fun c v u h1 h2 => aopX_sound (nm := nmC _) hC h1 h2
theorem xreg_sound {ops : Array Oper} {Q : Exit → Act → World → Prop} {K : St → Prop} : ∀ (l : List Oper) (cs : List CO) (st : St) (a : Act) (w : World), cosOf ops l = some cs → (∀ o ∈ l, ∀ d, o.dst = some d → d < C.nt) → xreg P cs st K → CC C st a w →
    (∀ st' a' w', K st' → CC C st' a' w' → Q .normal a' w') → wpList P ops Q l a w
  | [], cs, st, a, w, hc, _, h, hC, hQ => by cases hc; exact hQ st a w h hC
  | o :: rest, cs, st, a, w, hc, hd, h, hC, hQ => by
    have hd' : ∀ o ∈ rest, ∀ d, o.dst = some d → d < C.nt := fun o ho => hd o (by simp [ho])
    unfold cosOf at hc
    split at hc
    · rename_i c cs' h1 h2
      cases hc
      unfold coOf at h1
      unfold wpList
      obtain ⟨I, β, φ, hC⟩ := hC
      split at h1
      · rename_i hg
        cases h1
        rw [xreg_op] at h
        rw [if_pos (by simp [Region.wanted, hg])]
        exact .inl (xop_sound (hd o (by simp)) hC h fun v u a' w' hk hcc => xreg_sound rest cs' _ a' w' h2 hd' hk hcc hQ)
      · rename_i j want hg
        split at h1
        · rename_i d hj
          cases h1
          rw [xreg_gd] at h
          have hy := yielded_eq ops a.tmps j d hj
          unfold xG at h
          split at h
          · rename_i b hb
            have he := hC.env d
            rw [hb] at he
            change a.tmps.getD d undef = .bool b at he
            rw [he] at hy
            by_cases hbw : b = want
            · subst hbw
              rw [if_pos (by simp [Region.wanted, hg, hy])]
              exact .inl (xop_sound (hd o (by simp)) (hC.same_env hb) (h.1 rfl) fun v u a' w' hk hcc => xreg_sound rest cs' _ a' w' h2 hd' hk hcc hQ)
            · have hbn : b = !want := by cases b <;> cases want <;> simp_all
              rw [if_neg (by simp [Region.wanted, hg, hy, hbw])]
              subst hbn
              exact xreg_sound rest cs' _ _ w h2 hd' (h.2 rfl) (CC.put_undef (hd o (by simp)) (hC.same_env hb)) hQ
          · rename_i vs hb
            have he := hC.env d
            rw [hb] at he
            change a.tmps.getD d undef = .tuple vs at he
            rw [he] at hy
            rw [if_neg (by simp [Region.wanted, hg, hy])]
            exact xreg_sound rest cs' _ _ w h2 hd' h.2 (CC.put_undef (hd o (by simp)) hC) hQ
          · exact h.elim
        · cases h1
    · cases hc
end
section
variable {nt : Nat} {fs : List Nat} {Q : AExit → St → Prop} {st : St}
theorem AW_x {id : Nat} {l : List Oper} {cs : List CO} {y : Code} (hc : cosOf l.toArray l = some cs) (hd : dstOk nt l.toArray = true) (h : ∀ K : St → Prop, (∀ s, AW P nt fs y Q s → K s) → xreg P cs st K) : AW P nt fs (.seq (.region id l.toArray false) y) Q st := by
  refine AW_seq ?_
  intro C a w hn hf hC
  subst hn
  exact wp_region_lit (xreg_sound l cs st a w hc (by simpa using dstOk_spec hd) (h _ fun _ h => h) hC fun st' a' w' hq hc => ⟨st', hq, hc⟩)
/-- A region that stands last. -/
theorem AW_xe {id : Nat} {l : List Oper} {cs : List CO} (hc : cosOf l.toArray l = some cs) (hd : dstOk nt l.toArray = true) (h : ∀ K : St → Prop, (∀ s, Q .normal s → K s) → xreg P cs st K) : AW P nt fs (.region id l.toArray false) Q st := by
  intro C a w hn hf hC
  subst hn
  exact wp_region_lit (xreg_sound l cs st a w hc (by simpa using dstOk_spec hd) (h _ fun _ h => h) hC fun st' a' w' hq hc => ⟨st', hq, hc⟩)
end
end Go.Proofs.Ytpaccfeiaekacaa.Vs

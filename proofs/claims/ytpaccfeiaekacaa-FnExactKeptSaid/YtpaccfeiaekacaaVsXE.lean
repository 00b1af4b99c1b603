import Derived.Test.YtpaccfeiaekacaaVsXD
namespace Go.Proofs.Ytpaccfeiaekacaa.Vs
set_option linter.unusedVariables false
set_option linter.unusedSimpArgs false
set_option linter.unusedSectionVars false
set_option linter.unnecessarySimpa false
set_option linter.all false
open Go.RowKit
variable {P : Program}
/-! ### Helps for the walk by simp -/
theorem fname_no (n : Nat) : ¬ fname 0 0 n := by unfold fname; omega
/-- A contract without objects, as one with. -/
theorem xcall_of_pcall {f : FuncId} {args : List AV} {r : AV} (h : PCall P f args r) : XCall P f args [] r [] [] := by
  obtain ⟨h1, h2⟩ := h
  refine ⟨h1, rfl, by simp, rfl, ?_⟩
  intro w I β χ vs hI hargs hn _ _ _
  have hnone : ∀ n, β n = none ∧ χ n = [] := fun n => hn n (by unfold postOb; split <;> first | (split <;> simp) | simp)
  refine (h2 w I β vs hI hargs (by simp) (fun n _ => (hnone n).1) (by simp) (by simp) (fun n m bl bl' _ hb => by rw [(hnone n).1] at hb; cases hb)).mono ?_
  rintro e w' ⟨v, I', rfl, hev, hII, hIn, hr, -, -⟩
  refine ⟨v, I', fun _ => none, fun _ => [], rfl, hev.mono ?_, hII, hIn, hr, (fun n bl hb => by rw [(hnone n).1] at hb; cases hb), fun _ _ => ⟨rfl, rfl⟩, ?_, by simp, by simp⟩
  · rintro b - ⟨i, bl, h, -⟩; simp at h
  · intro n o ho
    unfold postOb at ho
    split at ho
    · split at ho
      · cases ho
      · simp at ho
    · simp at ho
section
variable {rest : List CO} {K : St → Prop} {st : St} {dst : Option Nat} {f : FuncId} {l l' : List AV} {r : AV}
theorem XKd_w (ha : am2s st (nuOf [] []) l l') (hp : PCall P f l' r) (hk : xreg P rest (putC st dst r (if scal r then [] else frzU st (arrN2 l))) K) : XKd P rest K st dst f l := by
  refine ⟨r, _, .inl ⟨[], [], l', [], [], [], hp, rfl, rfl, rfl, by simp, by simp, ha, rfl, rfl, rfl⟩, ?_⟩
  simpa [zipW, cellN] using hk
theorem XKd_v (ha : am2s st (nuOf [] []) l l') (hp : PCall P f l' r) (hs : arrN2 l = []) (hk : xreg P rest (putC st dst r []) K) : XKd P rest K st dst f l :=
  XKd_w ha hp (by rw [hs]; cases scal r <;> exact hk)
/-- A call by a contract with objects. -/
theorem XKd_x (hs : List Nat) (q : Bool) (Z : List (Nat × Nat)) {args : List AV} {wos wos' fos : List OB} (hX : XCall P f args wos r wos' fos)
    (hz : (Z.map (·.1)).Nodup ∧ (∀ z ∈ Z, st.ob z.1 = none) ∧ (hs ++ (List.range fos.length).map (nmC dst + ·)).Nodup ∧ (∀ k ∈ List.range fos.length, (addZ st Z).ob (nmC dst + k) = none) ∧ rkT q r = true ∧ (wos' ++ fos).all (rkO q) = true)
    (ha : ax2s q (addZ st Z) hs (Z.map (·.1)) l args ∧ axOs q (addZ st Z) hs (Z.map (·.1)) hs wos)
    (hk : xreg P rest (putC st dst (rnT (rhoX hs (nmC dst)) r) (zU Z ++ upsX hs (nmC dst) wos' fos)) K) : XKd P rest K st dst f l :=
  ⟨_, _, .inr ⟨args, wos, r, wos', fos, hs, q, Z, hX, hz.1, hz.2.1, hz.2.2.1, ha.1, ha.2, fun k hk => hz.2.2.2.1 k (List.mem_range.2 hk), hz.2.2.2.2.1, hz.2.2.2.2.2, rfl, rfl⟩, hk⟩
/-- A call that only reads, of rows of the frame's own too. -/
theorem XKd_p (hp : PCall P f l' r) (hr : rkT true r = true) (ha : ax2s true st [] [] l l') (hk : xreg P rest (putC st dst (rnT (rhoX [] (nmC dst)) r) []) K) : XKd P rest K st dst f l :=
  XKd_x [] true [] (xcall_of_pcall hp) ⟨by simp, by simp, by simp, by simp, hr, rfl⟩ ⟨ha, rfl⟩ hk
end
/-- Objects seen otherwise. -/
theorem LeS.cv {fs : List Nat} {s : St} {ob' : Nat → Option OB} (h : ∀ n, s.ob n = ob' n ∨ ∃ p o, s.ob n = some p ∧ ob' n = some o ∧ cvO p o) : LeS fs s { s with ob := ob' } := by
  intro C a w hf hC
  obtain ⟨I, β, φ, hC⟩ := hC
  have hnone : ∀ n, ob' n = none → s.ob n = none := by
    intro n hn
    rcases h n with h | ⟨p, o, h1, h2, -⟩
    · rw [h]; exact hn
    · rw [hn] at h2; cases h2
  refine ⟨I, β, φ, hC.move (ob' := ob') (fun _ => False) (Evo.refl _ w) (fun _ hf => hf.elim) (fun _ hb => hb) (fun _ hb => .inl hb) (fun _ _ hb => hb) ?_ (fun n hn => hC.dom n (hnone n hn)) (fun n hn => hC.fdom n (hnone n hn)) hC.sep hC.nimm hC.flt ?_ ?_⟩
  · intro n o ho
    rcases h n with h | ⟨p, o', h1, h2, hle⟩
    · exact .inl ⟨h.trans ho, rfl, fun _ _ hf => hf⟩
    · rw [ho] at h2; cases h2
      right
      have hro := hC.ob n p h1
      cases p <;> cases o <;> first | exact hle.elim | skip
      · obtain ⟨rfl, rfl⟩ := hle
        obtain ⟨bl, g1, g2, g3, g4, g5⟩ := hro
        exact ⟨bl, g1, g2, g3, g4, g5.imp id fun g => ⟨g.1, g.2.1, RIe_RJe _ _ g.2.2⟩⟩
      · obtain ⟨rfl, rfl, hs⟩ := hle
        obtain ⟨bl, g1, g2, g3, g4, g5⟩ := hro
        exact ⟨bl, g1, g2, g3, g4, by rcases g5 with ⟨-, h⟩ | ⟨h, -⟩ <;> rw [h] <;> simp, g5.imp id fun g => ⟨[], g.1, g.2.1, RJe_RWe (I := I) (β := β) _ _ hs (RIe_RJe _ _ g.2.2)⟩⟩
      · obtain ⟨rfl, rfl, hs⟩ := hle
        obtain ⟨bl, g1, g2, g3, g4, g5⟩ := hro
        exact ⟨bl, g1, g2, g3, g4, by rcases g5 with ⟨-, h⟩ | ⟨h, -⟩ <;> rw [h] <;> simp, g5.imp id fun g => ⟨[], g.1, g.2.1, RJe_RWe (I := I) (β := β) _ _ hs g.2.2⟩⟩
      · obtain ⟨rfl, rfl, hs⟩ := hle
        obtain ⟨bl, g1, g2, g3, g4, g5, g6⟩ := hro
        refine ⟨bl, g1, g2, g3, g4, ?_⟩
        rcases g6 with g6 | ⟨F', g6, g7, g8⟩
        · exact .inl g6
        · obtain ⟨k1, rfl⟩ := RWe_RJe (I := I) (β := β) _ _ _ hs g8
          exact .inr ⟨g6, g7, k1⟩
  · intro n o ho hwr b hb
    rcases h n with h | ⟨p, o', h1, h2, hle⟩
    · exact hC.wok n o (h.trans ho) hwr b hb
    · cases p with
      | flat sz xs => intro hy; have := hC.fnew n _ _ h1 b hb; have := hC.ylt b hy; omega
      | win _ _ => exact hC.wok n _ h1 rfl b hb
      | own _ _ => exact hC.wok n _ h1 rfl b hb
      | _ => cases o' <;> exact hle.elim
  · intro n sz xs ho b hb
    rcases h n with h | ⟨p, o', h1, h2, hle⟩
    · exact hC.fnew n sz xs (h.trans ho) b hb
    · rw [ho] at h2; cases h2
      cases p <;> exact hle.elim
theorem postOb_nn (n : Nat) : postOb [] [] n = none := by unfold postOb; split <;> first | (split <;> simp) | simp
theorem postOb_1 (o : OB) (n : Nat) : postOb [o] [] n = lk [(8, o)] n := by
  unfold postOb
  rw [lk_cons, lk_nil]
  by_cases h : n = 8
  · subst h; simp
  · have : (n == 8) = false := by simpa using h
    rw [this]
    simp only [cond_false]
    split
    · split
      · rfl
      · rw [List.getElem?_eq_none_iff]; simp; omega
    · simp
theorem postOb_2 (o p : OB) (n : Nat) : postOb [o, p] [] n = lk [(8, o), (9, p)] n := by
  unfold postOb
  rw [lk_cons, lk_cons, lk_nil]
  by_cases h : n = 8
  · subst h; simp
  · have e : (n == 8) = false := by simpa using h
    rw [e]
    simp only [cond_false]
    by_cases h' : n = 9
    · subst h'; simp
    · have e : (n == 9) = false := by simpa using h'
      rw [e]
      simp only [cond_false]
      split
      · split
        · rfl
        · rw [List.getElem?_eq_none_iff]; simp; omega
      · simp
section
variable {nt : Nat} {fs : List Nat} {Q : AExit → St → Prop} {c : Code}
theorem AW_x0 {args : List AV} (h : AW P nt (formsX 0) c Q { env := fun n => args.getD n .undef, ob := lk [] }) : AW P nt (formsX 0) c Q (stX args []) := by
  have : (stX args []) = { env := fun n => args.getD n .undef, ob := lk [] } := by
    unfold stX; congr 1; funext n; rw [postOb_nn]; rfl
  rw [this]; exact h
theorem AW_x1 {args : List AV} {o : OB} (o' : OB) (ho : o = o' ∨ cvO o o') (h : AW P nt (formsX 1) c Q { env := fun n => args.getD n .undef, ob := lk [(8, o')] }) : AW P nt (formsX 1) c Q (stX args [o]) := by
  refine AW_le (LeS.cv (ob' := lk [(8, o')]) fun n => ?_) h
  show postOb [o] [] n = _ ∨ ∃ p q, postOb [o] [] n = some p ∧ _
  rw [postOb_1]
  rcases ho with rfl | ho
  · exact .inl rfl
  · simp only [lk_cons, lk_nil]
    by_cases e : (n == 8) = true
    · rw [e]; exact .inr ⟨o, o', rfl, rfl, ho⟩
    · have e : (n == 8) = false := by simpa using e
      rw [e]; exact .inl rfl
theorem AW_x2 {args : List AV} {o p : OB} (o' p' : OB) (ho : o = o' ∨ cvO o o') (hp : p = p' ∨ cvO p p') (h : AW P nt (formsX 2) c Q { env := fun n => args.getD n .undef, ob := lk [(8, o'), (9, p')] }) : AW P nt (formsX 2) c Q (stX args [o, p]) := by
  refine AW_le (LeS.cv (ob' := lk [(8, o'), (9, p')]) fun n => ?_) h
  show postOb [o, p] [] n = _ ∨ ∃ a b, postOb [o, p] [] n = some a ∧ _
  rw [postOb_2]
  simp only [lk_cons, lk_nil]
  by_cases e : (n == 8) = true
  · rw [e]
    rcases ho with rfl | ho
    · exact .inl rfl
    · exact .inr ⟨o, o', rfl, rfl, ho⟩
  · have e : (n == 8) = false := by simpa using e
    rw [e]
    by_cases e : (n == 9) = true
    · rw [e]
      rcases hp with rfl | hp
      · exact .inl rfl
      · exact .inr ⟨p, p', rfl, rfl, hp⟩
    · have e : (n == 9) = false := by simpa using e
      rw [e]; exact .inl rfl
end
def endXR (x : Option (Prop × List AV)) (st : St) (hs Z : List Nat) (r : AV) : Prop := match x with
  | some (p, vs) => p ∧ axRs st hs Z vs r
  | none => False
theorem endXR_some {st : St} {hs Z : List Nat} (p : Prop) (vs : List AV) (r : AV) : endXR (some (p, vs)) st hs Z r = (p ∧ axRs st hs Z vs r) := (rfl)
/-- The end. μ: the new rows' names; Z: names for empty rows. -/
theorem end_x {rs : List ResultVar} {r : AV} {wos' fos : List OB} {st : St} (μ : List Nat) (Z : List (Nat × Nat))
    (h1 : (Z.map (·.1)).Nodup ∧ (∀ z ∈ Z, st.ob z.1 = none) ∧ μ.length = fos.length ∧ (addZ st Z).ob 7 = none ∧ μ.Nodup ∧ ∀ m ∈ μ, 16 ≤ m)
    (hw : wos'.length ≤ 8)
    (h2 : endXR (resAll P st rs) (addZ st Z) (hsE wos'.length μ) (Z.map (·.1)) r ∧ axW (addZ st Z) (hsE wos'.length μ) (Z.map (·.1)) 0 wos' ∧ axOs false (addZ st Z) (hsE wos'.length μ) (Z.map (·.1)) μ fos) : endX P rs r wos' fos st := by
  obtain ⟨g1, g2, g3, g4, g5, g6⟩ := h1
  obtain ⟨k1, k2, k3⟩ := h2
  unfold endXR at k1
  split at k1
  · rename_i p vs hr
    refine ⟨p, vs, μ, Z, hr, k1.1, g1, g2, g3, g4, g5, fun i o hi _ hm => ?_, k1.2, k2, k3⟩
    have := g6 _ hm
    have := (List.getElem?_eq_some_iff.1 hi).1
    omega
  · exact k1.elim
theorem axRs_one {st : St} {hs Z : List Nat} (v r : AV) : axRs st hs Z [v] r = ax2 false st hs Z v r := (rfl)
theorem axRs_2 {st : St} {hs Z : List Nat} (v w : AV) (rs : List AV) : axRs st hs Z [v, w] (.tup rs) = ax2s false st hs Z [v, w] rs := (rfl)
theorem axRs_3 {st : St} {hs Z : List Nat} (v w x : AV) (rs : List AV) : axRs st hs Z [v, w, x] (.tup rs) = ax2s false st hs Z [v, w, x] rs := (rfl)
theorem axRs_0 {st : St} {hs Z : List Nat} (rs : List AV) : axRs st hs Z [] (.tup rs) = ax2s false st hs Z [] rs := (rfl)
section
variable {q : Bool} {st : St} {hs Z : List Nat}
theorem ax2s_nn : ax2s q st hs Z [] [] = True := by simp [ax2s]
theorem ax2s_cc (a b : AV) (l m : List AV) : ax2s q st hs Z (a :: l) (b :: m) = (ax2 q st hs Z a b ∧ ax2s q st hs Z l m) := (rfl)
theorem ax1s_nn : ax1s q st hs Z [] [] = True := by simp [ax1s]
theorem ax1s_cc (a b : AV) (l m : List AV) : ax1s q st hs Z (a :: l) (b :: m) = (ax1 q st hs Z a b ∧ ax1s q st hs Z l m) := (rfl)
theorem ax2_ff (cs cs' : List AV) : ax2 q st hs Z (.agg cs) (.agg cs') = ax1s q st hs Z cs cs' := (rfl)
theorem ax2_gg (v v' : Value) : ax2 q st hs Z (.g v) (.g v') = (v' = v) := (rfl)
theorem ax1_gg (v v' : Value) : ax1 q st hs Z (.g v) (.g v') = (v' = v) := (rfl)
theorem ax2_ss (v v' : List UInt8) : ax2 q st hs Z (.s v) (.s v') = (v' = v) := (rfl)
theorem ax1_ss (v v' : List UInt8) : ax1 q st hs Z (.s v) (.s v') = (v' = v) := (rfl)
theorem ax2_ll (s s' : Nat) (v v' : List (List AV)) : ax2 q st hs Z (.sl s v) (.sl s' v') = (s' = s ∧ v' = v) := (rfl)
theorem ax1_ll (s s' : Nat) (v v' : List (List AV)) : ax1 q st hs Z (.sl s v) (.sl s' v') = (s' = s ∧ v' = v) := (rfl)
theorem ax2_aa (n o l i o' l' : Nat) : ax2 q st hs Z (.arr n o l) (.arr i o' l') = (nuX hs i = some n ∧ o' = o ∧ l' = l) := (rfl)
theorem ax1_aa (n o l i o' l' : Nat) : ax1 q st hs Z (.arr n o l) (.arr i o' l') = (nuX hs i = some n ∧ o' = o ∧ l' = l) := (rfl)
theorem ax2_ga (v : Value) (i o l : Nat) : ax2 q st hs Z (.g v) (.arr i o l) = (v = .slice none 0 0 ∧ o = 0 ∧ l = 0 ∧ ∃ n, nuX hs i = some n ∧ n ∈ Z) := (rfl)
theorem ax1_ga (v : Value) (i o l : Nat) : ax1 q st hs Z (.g v) (.arr i o l) = (v = .slice none 0 0 ∧ o = 0 ∧ l = 0 ∧ ∃ n, nuX hs i = some n ∧ n ∈ Z) := (rfl)
theorem ax2_gl (v : Value) (s : Nat) (xs : List (List AV)) : ax2 q st hs Z (.g v) (.sl s xs) = ((v = .slice none 0 0 ∧ xs = []) ∨ (q = true ∧ ∃ n ps, hs.contains n = false ∧ st.ob n = some (.park ps) ∧ (.sl s xs, v) ∈ ps)) := (rfl)
theorem ax1_gl (v : Value) (s : Nat) (xs : List (List AV)) : ax1 q st hs Z (.g v) (.sl s xs) = ((v = .slice none 0 0 ∧ xs = []) ∨ (q = true ∧ ∃ n ps, hs.contains n = false ∧ st.ob n = some (.park ps) ∧ (.sl s xs, v) ∈ ps)) := (rfl)
theorem ax2_al (n o l s : Nat) (xs : List (List AV)) : ax2 q st hs Z (.arr n o l) (.sl s xs) = (∃ ys, vwO q hs st n s ys ∧ o + l ≤ ys.length ∧ xs = (ys.drop o).take l) := (rfl)
theorem ax1_al (n o l s : Nat) (xs : List (List AV)) : ax1 q st hs Z (.arr n o l) (.sl s xs) = (∃ ys, vwO q hs st n s ys ∧ o + l ≤ ys.length ∧ xs = (ys.drop o).take l) := (rfl)
theorem ax2_pp (n o i o' : Nat) : ax2 q st hs Z (.ptr n o) (.ptr i o') = (nuX hs i = some n ∧ o' = o) := (rfl)
theorem ax2_ee (n i f j i' f' : Nat) : ax2 q st hs Z (.eptr n i f) (.eptr j i' f') = (nuX hs j = some n ∧ i' = i ∧ f' = f) := (rfl)
theorem axOs_nn : axOs q st hs Z [] [] = True := by simp [axOs]
theorem axOs_cc (n : Nat) (o : OB) (ns : List Nat) (os : List OB) : axOs q st hs Z (n :: ns) (o :: os) = ((∃ p, st.ob n = some p ∧ axO q st hs Z p o) ∧ axOs q st hs Z ns os) := (rfl)
/-- Is it a row of that kind, that may be handed on as one of the caller's own? -/
theorem axO_oo (s s' : Nat) (xs xs' : List (List AV)) : axO q st hs Z (.own s xs) (.own s' xs') = (s' = s ∧ xs' = xs) := (rfl)
theorem axO_wo (s s' : Nat) (xs xs' : List (List AV)) : axO q st hs Z (.win s xs) (.own s' xs') = (s' = s ∧ xs' = xs ∧ scR xs = true) := (rfl)
theorem axO_fo (s s' : Nat) (xs xs' : List (List AV)) : axO q st hs Z (.flat s xs) (.own s' xs') = (s' = s ∧ xs' = xs ∧ scR xs = true) := (rfl)
theorem axO_cc (cs cs' : List AV) : axO q st hs Z (.cells cs) (.cells cs') = ax1s q st hs Z cs cs' := (rfl)
theorem axW_n (i : Nat) : axW st hs Z i [] = True := (rfl)
theorem axW_c (i : Nat) (o : OB) (os : List OB) : axW st hs Z i (o :: os) = ((∃ p, st.ob (8 + i) = some p ∧ axE st hs Z p o) ∧ axW st hs Z (i + 1) os) := (rfl)
end
theorem nuX_eq (hs : List Nat) (i : Nat) : nuX hs i = if i < 8 then none else hs[i - 8]? := (rfl)
theorem vwO_some {q : Bool} {hs : List Nat} {st : St} {n sz : Nat} {ys : List (List AV)} : vwO q hs st n sz ys = (st.ob n = some (.shared sz ys) ∨ (q = true ∧ hs.contains n = false ∧ (st.ob n = some (.flat sz ys) ∨ st.ob n = some (.own sz ys) ∨ (st.ob n = some (.win sz ys) ∧ scR ys = true)))) := (rfl)
section
variable {st : St} {nm : Nat}
theorem aopX_move (x : Operand) : aopX P st nm (.move x) = aop P st nm (.move x) := (rfl)
theorem aopX_assign (x : Operand) : aopX P st nm (.assign x) = aop P st nm (.assign x) := (rfl)
theorem aopX_pick (c x y : Operand) : aopX P st nm (.pick c x y) = aop P st nm (.pick c x y) := (rfl)
theorem aopX_alloc (t : TypeId) : aopX P st nm (.alloc t) = aop P st nm (.alloc t) := (rfl)
theorem aopX_box (t : TypeId) (x : Operand) : aopX P st nm (.box t x) = aop P st nm (.box t x) := (rfl)
theorem aopX_build (t : TypeId) (ps : Array (Nat × Operand)) : aopX P st nm (.build t ps) = aop P st nm (.build t ps) := (rfl)
theorem aopX_load (t : TypeId) (x : Operand) : aopX P st nm (.load t x) = aop P st nm (.load t x) := (rfl)
theorem aopX_nilCheck (x : Operand) : aopX P st nm (.nilCheck x) = aop P st nm (.nilCheck x) := (rfl)
theorem aopX_unOp (o : UnOp) (t : TypeId) (x : Operand) : aopX P st nm (.unOp o t x) = aop P st nm (.unOp o t x) := (rfl)
theorem aopX_convert (a b : TypeId) (x : Operand) : aopX P st nm (.convert a b x) = aop P st nm (.convert a b x) := (rfl)
theorem aopX_makeSlice (t : TypeId) (x y : Operand) : aopX P st nm (.makeSlice t x y) = aop P st nm (.makeSlice t x y) := (rfl)
theorem aopX_fieldAddr (t : TypeId) (x : Operand) (f : Nat) : aopX P st nm (.fieldAddr t x f) = aop P st nm (.fieldAddr t x f) := (rfl)
theorem aopX_field (t : TypeId) (x : Operand) (f : Nat) : aopX P st nm (.field t x f) = aop P st nm (.field t x f) := (rfl)
theorem aopX_indexAddr (t : TypeId) (x y : Operand) : aopX P st nm (.indexAddr t x y) = aop P st nm (.indexAddr t x y) := (rfl)
theorem aopX_index (t : TypeId) (x y : Operand) : aopX P st nm (.index t x y) = aop P st nm (.index t x y) := (rfl)
theorem aopX_binOp (o : BinOp) (t : TypeId) (x y : Operand) (z) : aopX P st nm (.binOp o t x y z) = aop P st nm (.binOp o t x y z) := (rfl)
theorem aopX_slice (t : TypeId) (x : Operand) (a b c) : aopX P st nm (.slice t x a b c) = aop P st nm (.slice t x a b c) := (rfl)
theorem aopX_extract (x : Operand) (i : Nat) : aopX P st nm (.extract x i) = aop P st nm (.extract x i) := (rfl)
theorem aopX_makeFunc (f) (a b) : aopX P st nm (.makeFunc f a b) = aop P st nm (.makeFunc f a b) := (rfl)
theorem aopX_store (t : TypeId) (x v : Operand) : aopX P st nm (.store t x v) = orE (aStore P st t (ev st x) (ev st v)) (aStoreW P st t (ev st x) (ev st v)) := (rfl)
theorem aopX_buildSlice (t : TypeId) (n : Nat) (ps : Array (Nat × Operand)) : aopX P st nm (.buildSlice t n ps) = orE (aBuildSlice P st nm t n (parts st ps.toList)) (aBuildSliceW P st nm t n (parts st ps.toList)) := (rfl)
theorem aBuiltinX_append (ts : List TypeId) (s x : AV) : aBuiltinX P st nm .append ts [s, x] = orE (aAppend P st nm ts s x) (aAppendW P st nm ts s x) := (rfl)
theorem aBuiltinX_len (ts : List TypeId) (args : List AV) : aBuiltinX P st nm .len ts args = aBuiltin P st nm .len ts args := (rfl)
theorem aBuiltinX_max (ts : List TypeId) (args : List AV) : aBuiltinX P st nm .max ts args = aBuiltin P st nm .max ts args := (rfl)
theorem aBuiltinX_min (ts : List TypeId) (args : List AV) : aBuiltinX P st nm .min ts args = aBuiltin P st nm .min ts args := (rfl)
end

theorem scR_I (l : List Int) : scR (l.map cI) = true := scR_map _ (fun _ => rfl) l
theorem scR_B (l : List Bool) : scR (l.map cB) = true := scR_map _ (fun _ => rfl) l
theorem scR_S (l : List (List UInt8)) : scR (l.map cS) = true := scR_map _ (fun _ => rfl) l
attribute [simp] scR_I scR_B scR_S scR_nil addZ nuX_eq vwO_some ax2s_nn ax2s_cc ax1s_nn ax1s_cc ax2_ff ax2_gg ax1_gg ax2_ss ax1_ss ax2_ll ax1_ll ax2_aa ax1_aa ax2_ga ax1_ga ax2_gl ax1_gl ax2_al ax1_al ax2_pp ax2_ee axOs_nn axOs_cc axO_oo axO_wo axO_fo axO_cc axW_n axW_c axE endXR_some axRs_one axRs_2 axRs_3 axRs_0 rkT rk2 rk rkO hsE
attribute [simp] xreg_nil xreg_op xreg_gd xO xR xG_bool xG_undef orE_some orE_none aopX_move aopX_assign aopX_pick aopX_alloc aopX_box aopX_build aopX_load aopX_nilCheck aopX_unOp aopX_convert aopX_makeSlice aopX_fieldAddr aopX_field aopX_indexAddr aopX_index aopX_binOp aopX_slice aopX_extract aopX_makeFunc aopX_store aopX_buildSlice aBuiltinX_append aBuiltinX_len aBuiltinX_max aBuiltinX_min aStoreW aNewsW aAppendW aBuildSliceW rnT rn2 rn0 rnO rhoX zU upsX zipO
end Go.Proofs.Ytpaccfeiaekacaa.Vs

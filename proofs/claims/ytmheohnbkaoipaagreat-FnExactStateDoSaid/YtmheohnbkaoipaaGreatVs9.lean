import Derived.Test.YtmheohnbkaoipaaGreatVs8
section
namespace Go.Proofs.YtmheohnbkaoipaaGreat.Vs
set_option linter.all false
set_option linter.unusedSimpArgs false
set_option linter.unusedVariables false
def wnO (s : St) (ρ : Ren) : OB → OB → Prop
 | .win sz xs, .win sz' xs' => sz' = sz ∧ wn s ρ xs xs'
 | _, _ => False
def KpOW (s : St) (ρ : Ren) : List (Nat × OB) → Prop
 | [] => True
 | (n, o) :: r => (∃ m p, lk ρ n = some m ∧ s.ob m = some p ∧ ((p = renO ρ o ∧ plO o = true) ∨ cvO p o ∨ wnO s ρ p o)) ∧ KpOW s ρ r
theorem LeS.kw {fs : List Nat} {s : St} (ρ : Ren) (e : List (Nat × AV)) (os : List (Nat × OB)) (he : KpR s ρ e) (ho : KpOW s ρ os) (hp : (e.all fun p => pl2 p.2) = true) (h1 : (ρ.map (·.1)).Nodup) (h2 : (ρ.map (·.2)).Nodup) (h3 : ρ.map (·.1) = os.map (·.1)) (hf : ∀ n ∈ fs, lk ρ n = some n) : LeS fs s { env := lkE e, ob := lk os } := by
 refine LeS.le (ρ := ρ) ⟨?_, ?_, h1, h2, h3, h3 ▸ h1, hf⟩
 ·clear ho h3
  induction e with
  | nil => trivial
  | cons p e ih =>
   obtain ⟨t, v⟩ := p
   simp only [List.all_cons, Bool.and_eq_true] at hp
   refine ⟨?_, ih he.2 hp.2⟩
   rw [he.1]
   exact zsm v hp.1
 ·clear he hp h3
  induction os with
  | nil => trivial
  | cons p r ih =>
   obtain ⟨n, o⟩ := p
   refine ⟨?_, ih ho.2⟩
   obtain ⟨m, q, g1, g2, g3⟩ := ho.1
   rw [g1]
   simp only
   rw [g2]
   rcases g3 with ⟨rfl, g3⟩ | g3 | g3
   ·exact zsn o g3
   ·cases q <;> cases o <;> first | exact g3.elim | exact g3 | exact ⟨g3.1, .inl g3.2⟩
   ·cases q <;> cases o <;> first | exact g3.elim | exact ⟨g3.1, .inr g3.2⟩
def OB.nofl : OB → Bool
 | .flat .. => false
 | _ => true
def inlR (x : Option (Prop × List AV)) (K : AV → (Nat → Option OB) → Prop) (ob : Nat → Option OB) : Prop := match x with
 | some (p, vs) => p ∧ vs.all noTup = true ∧ K (tupA vs) ob
 | none => False
theorem le1_sc {s : St} {ρ : Ren} {c : AV} (h : scal1 c = true) : le1 s ρ c c := by
 cases c <;> first | (simp [scal1] at h; done) | rfl | skip
theorem zz6 {s : St} {ρ : Ren} : ∀ (cs : List AV), cs.all scal1 = true → le1s s ρ cs cs
 | [], _ => rfl
 | c :: cs, h => by
  simp only [List.all_cons, Bool.and_eq_true] at h
  exact ⟨le1_sc h.1, zz6 cs h.2⟩
theorem zhd {s : St} {ρ : Ren} {ys : List (List AV)} (hs : scR ys = true) {k : Nat} {y y' : List AV} (hy : le1s s ρ y y') : wn s ρ (ys.set k y) (ys.set k y') := by
 refine ⟨by simp, fun i x' hx' => ?_⟩
 rw [List.getElem?_set] at hx' ⊢
 by_cases hk : k = i
 ·subst hk
  rw [if_pos rfl] at hx' ⊢
  by_cases hl : k < ys.length
  ·rw [if_pos hl] at hx' ⊢; cases hx'; exact ⟨_, rfl, hy⟩
  ·rw [if_neg hl] at hx'; cases hx'
 ·rw [if_neg hk] at hx' ⊢
  refine ⟨x', hx', zz6 x' ?_⟩
  have := List.all_eq_true.1 hs x' (List.mem_of_getElem? hx')
  exact this
theorem zh4 {w : World} {ps qs : List (AV × Value)} {F : List Nat} (h : RWs w (ps ++ qs) F) : ∃ F1 F2, F = F1 ++ F2 ∧ RWs w ps F1 ∧ RWs w qs F2 := (zgx ps qs F).1 h
section
variable {P : Program} {nt : Nat} {fs : List Nat} {Q : AExit → St → Prop} {st : St} {c : Code}
theorem LeS.unpark (n pk S : Nat) {s sz k j : Nat} {xs ys : List (List AV)} {x : List AV} {v : Value} {ps1 ps2 : List (AV × Value)}
 (hn : st.ob n = some (.win sz xs)) (hp : st.ob pk = some (.park (ps1 ++ (.sl s ys, v) :: ps2))) (hS : st.ob S = none) (hx : xs[k]? = some x) (hj : x[j]? = some (.g v)) :
 LeS fs st { st with ob := upd (upd (upd st.ob S (some (.own s ys))) pk (some (.park (ps1 ++ ps2)))) n (some (.win sz (xs.set k (x.set j (.arr S 0 ys.length))))) } := by
 rintro C a w hfs ⟨I, β, φ, hC⟩
 have hnp : n ≠ pk := by rintro rfl; rw [hn] at hp; cases hp
 have hnS : n ≠ S := by rintro rfl; rw [hn] at hS; cases hS
 have hpS : pk ≠ S := by rintro rfl; rw [hp] at hS; cases hS
 obtain ⟨bl, b1, b2, b3, b4, b5⟩ := hC.ob _ _ hn
 obtain ⟨p1, p2⟩ := hC.ob _ _ hp
 obtain ⟨F1, F2', hF, q1, q2⟩ := zh4 p2
 obtain ⟨Fv, F2, rfl, q3, q4⟩ := q2
 have hβS : β S = none := hC.dom S hS
 rw [hF] at p1
 obtain ⟨nd1, nd2, nd3⟩ := List.nodup_append.1 p1
 obtain ⟨nd4, nd5, nd6⟩ := List.nodup_append.1 nd2
 have hnd12 : (F1 ++ F2).Nodup := List.nodup_append.2 ⟨nd1, nd5, fun a ha b hb => nd3 a ha b (List.mem_append.2 (.inr hb))⟩
 have q3' := q3
 rw [RW] at q3'
 have key : ∃ bs : Bl, bs.sz = s ∧ bs.o = 0 ∧ ys.length ≤ bs.cap ∧ ((bs.cap = 0 ∧ Fv = []) ∨ ∃ F', Fv = bs.b :: F' ∧ OwnW w bs.b 0 (bs.cap * s) ∧ RWe w bs.b s 0 ys F') ∧ (v = .slice (some ⟨bs.b, bs.o + 0 * bs.sz, none⟩) ys.length (bs.cap - 0) ∨ (0 = bs.cap ∧ ∃ a, v = .slice a 0 0)) := by
  obtain ⟨aa, cap, rfl, h2, ⟨rfl, rfl, rfl⟩ | ⟨b, F', rfl, rfl, h4, h5⟩⟩ := q3'
  ·exact ⟨⟨0, 0, s, 0⟩, rfl, rfl, by simp, .inl ⟨rfl, rfl⟩, .inr ⟨rfl, aa, by simp⟩⟩
  ·exact ⟨⟨b, 0, s, cap⟩, rfl, rfl, h2, .inr ⟨F', rfl, h4, h5⟩, .inl (by simp)⟩
 obtain ⟨bs, k1, k2, k3, k4, k5⟩ := key
 have hβ' : ∀ m bl, β m = some bl → upd β S (some bs) m = some bl := by
  intro m bl' hb
  rw [zbg]
  ·exact hb
  ·rintro rfl; rw [hβS] at hb; cases hb
 refine ⟨I, upd β S (some bs), upd (upd φ S Fv) pk (F1 ++ F2), ?_⟩
 have hm : ∀ m b, b ∈ upd (upd φ S Fv) pk (F1 ++ F2) m → (m = pk ∧ b ∈ F1 ++ F2) ∨ (m = S ∧ b ∈ Fv) ∨ (m ≠ pk ∧ m ≠ S ∧ b ∈ φ m) := by
  intro m b hb
  by_cases e1 : m = pk
  ·subst e1; rw [zbk] at hb; exact .inl ⟨rfl, hb⟩
  ·rw [zbg _ _ e1] at hb
   by_cases e2 : m = S
   ·subst e2; rw [zbk] at hb; exact .inr (.inl ⟨rfl, hb⟩)
   ·rw [zbg _ _ e2] at hb; exact .inr (.inr ⟨e1, e2, hb⟩)
 have hin1 : ∀ b, b ∈ F1 ++ F2 → b ∈ φ pk := by
  intro b hb; rw [hF]
  rcases List.mem_append.1 hb with h | h <;> simp [h]
 have hin2 : ∀ b, b ∈ Fv → b ∈ φ pk := by intro b hb; rw [hF]; simp [hb]
 have hdis : ∀ b, b ∈ F1 ++ F2 → b ∈ Fv → False := by
  intro b h1 h2
  rcases List.mem_append.1 h1 with h | h
  ·exact nd3 b h b (List.mem_append.2 (.inl h2)) rfl
  ·exact nd6 b h2 b h rfl
 have hsrc : ∀ m b, b ∈ upd (upd φ S Fv) pk (F1 ++ F2) m → (b ∈ φ pk ∧ (m = pk ∨ m = S)) ∨ (m ≠ pk ∧ m ≠ S ∧ b ∈ φ m) := by
  intro m b hb
  rcases hm m b hb with ⟨e, h⟩ | ⟨e, h⟩ | h
  ·exact .inl ⟨hin1 b h, .inl e⟩
  ·exact .inl ⟨hin2 b h, .inr e⟩
  ·exact .inr h
 have hdom : ∀ m, upd (upd (upd st.ob S (some (OB.own s ys))) pk (some (OB.park (ps1 ++ ps2)))) n (some (OB.win sz (xs.set k (x.set j (.arr S 0 ys.length))))) m = none → m ≠ n ∧ m ≠ pk ∧ m ≠ S ∧ st.ob m = none := by
  intro m ho
  by_cases e1 : m = n
  ·subst e1; simp [zbk] at ho
  ·rw [zbg _ _ e1] at ho
   by_cases e2 : m = pk
   ·subst e2; simp [zbk] at ho
   ·rw [zbg _ _ e2] at ho
    by_cases e3 : m = S
    ·subst e3; simp [zbk] at ho
    ·rw [zbg _ _ e3] at ho; exact ⟨e1, e2, e3, ho⟩
 refine hC.move (fun _ => False) (Evo.refl _ w) (fun _ hf => hf.elim) (fun _ hb => hb) (fun _ hb => .inl hb) hβ' ?_ ?_ ?_ ?_ ?_ ?_ ?_ ?_
 ·intro m o ho
  by_cases e1 : m = n
  ·subst e1
   simp only [zbk, Option.some.injEq] at ho
   subst ho
   right
   rw [zbg _ _ hnp, zbg _ _ hnS]
   refine ⟨bl, hβ' _ _ b1, b2, b3, by simpa using b4, b5.imp id fun ⟨g1, g2, g3⟩ => ⟨g1, g2, ?_⟩⟩
   rw [zgl] at g3 ⊢
   intro i x' hx'
   have hmono : ∀ (o : Nat) (cs : List AV), RJc w I β bl.b o cs → RJc w I (upd β S (some bs)) bl.b o cs := by
    intro o cs h
    rw [zd5] at h ⊢
    intro jj d hd
    obtain ⟨u, h1, h2⟩ := h jj d hd
    exact ⟨u, h1, zfw (fun _ h => h) (fun _ _ => rfl) hβ' _ _ h2⟩
   rw [List.getElem?_set] at hx'
   by_cases hk : k = i
   ·subst hk
    obtain ⟨f1, f2⟩ := g3 k x hx
    rw [if_pos rfl] at hx'
    split at hx'
    ·cases hx'
     refine ⟨by simpa using f1, ?_⟩
     have f2' := hmono _ _ f2
     rw [zd5] at f2' ⊢
     intro jj d hd
     rw [List.getElem?_set] at hd
     by_cases hjj : j = jj
     ·subst hjj
      rw [if_pos rfl] at hd
      split at hd
      ·cases hd
       obtain ⟨u, u1, u2, u3⟩ := f2' j _ hj
       have hu : u = v := u2
       subst hu
       exact ⟨u, u1, ⟨bs, zbk _ _ _, by omega, k5⟩, u3⟩
      ·cases hd
     ·rw [if_neg hjj] at hd
      exact f2' jj d hd
    ·cases hx'
   ·rw [if_neg hk] at hx'
    obtain ⟨f1, f2⟩ := g3 i x' hx'
    exact ⟨f1, hmono _ _ f2⟩
  ·rw [zbg _ _ e1] at ho
   by_cases e2 : m = pk
   ·subst e2
    simp only [zbk, Option.some.injEq] at ho
    subst ho
    exact .inr (by rw [zbk]; exact ⟨hnd12, (zgx _ _ _).2 ⟨F1, F2, rfl, q1, q4⟩⟩)
   ·rw [zbg _ _ e2] at ho
    by_cases e3 : m = S
    ·subst e3
     simp only [zbk, Option.some.injEq] at ho
     subst ho
     exact .inr (by rw [zbg _ _ e2, zbk]; exact ⟨bs, zbk _ _ _, k1, k2, k3, nd4, k4⟩)
    ·rw [zbg _ _ e3] at ho
     exact .inl ⟨ho, by rw [zbg _ _ e2, zbg _ _ e3], fun _ _ hf => hf⟩
 ·intro m ho
  obtain ⟨e1, e2, e3, e4⟩ := hdom m ho
  rw [zbg _ _ e3]; exact hC.dom m e4
 ·intro m ho
  obtain ⟨e1, e2, e3, e4⟩ := hdom m ho
  rw [zbg _ _ e2, zbg _ _ e3]; exact hC.fdom m e4
 ·intro m m' hmm b hb hb'
  rcases hm m b hb with ⟨rfl, g⟩ | ⟨rfl, g⟩ | ⟨e1, e2, g⟩
  ·rcases hm m' b hb' with ⟨rfl, -⟩ | ⟨rfl, g'⟩ | ⟨e3, e4, g'⟩
   ·exact hmm rfl
   ·exact hdis b g g'
   ·exact hC.sep m m' hmm b (hin1 b g) g'
  ·rcases hm m' b hb' with ⟨rfl, g'⟩ | ⟨rfl, -⟩ | ⟨e3, e4, g'⟩
   ·exact hdis b g' g
   ·exact hmm rfl
   ·exact hC.sep pk m' (Ne.symm e3) b (hin2 b g) g'
  ·rcases hsrc m' b hb' with ⟨g', -⟩ | ⟨e3, e4, g'⟩
   ·exact hC.sep m pk e1 b g g'
   ·exact hC.sep m m' hmm b g g'
 ·intro m b hb
  rcases hsrc m b hb with ⟨g, -⟩ | ⟨-, -, g⟩
  ·exact hC.nimm pk b g
  ·exact hC.nimm m b g
 ·intro m b hb
  rcases hsrc m b hb with ⟨g, -⟩ | ⟨-, -, g⟩
  ·exact hC.flt pk b g
  ·exact hC.flt m b g
 ·intro m o ho hwr b hb
  rcases hsrc m b hb with ⟨g, -⟩ | ⟨e1, e2, g⟩
  ·exact hC.wok pk _ hp rfl b g
  ·by_cases e3 : m = n
   ·subst e3; exact hC.wok m _ hn rfl b g
   ·rw [zbg _ _ e3, zbg _ _ e1, zbg _ _ e2] at ho
    exact hC.wok m o ho hwr b g
 ·intro m s' ys' ho b hb
  by_cases e3 : m = n
  ·subst e3; simp [zbk] at ho
  ·rw [zbg _ _ e3] at ho
   rcases hsrc m b hb with ⟨g, e | e⟩ | ⟨e1, e2, g⟩
   ·subst e; simp [zbk] at ho
   ·subst e; rw [zbg _ _ (Ne.symm hpS), zbk] at ho; cases ho
   ·rw [zbg _ _ e1, zbg _ _ e2] at ho
    exact hC.fnew m s' ys' ho b g
theorem LeS.parkN (pk : Nat) {s : Nat} {ps1 ps2 : List (AV × Value)} (hp : st.ob pk = some (.park (ps1 ++ ps2))) : LeS fs st { st with ob := upd st.ob pk (some (.park (ps1 ++ (.sl s [], .slice none 0 0) :: ps2))) } := by
 rintro C a w hfs ⟨I, β, φ, hC⟩
 obtain ⟨p1, p2⟩ := hC.ob _ _ hp
 refine ⟨I, β, φ, hC.move (fun _ => False) (Evo.refl _ w) (fun _ hf => hf.elim) (fun _ hb => hb) (fun _ hb => .inl hb) (fun _ _ h => h) ?_ ?_ ?_ hC.sep hC.nimm hC.flt ?_ ?_⟩
 ·intro m o ho
  by_cases e : m = pk
  ·subst e
   simp only [zbk, Option.some.injEq] at ho
   subst ho
   obtain ⟨F1, F2, hF, h1, h2⟩ := (zgx _ _ _).1 p2
   refine .inr ⟨p1, ?_⟩
   rw [hF]
   exact (zgx _ _ _).2 ⟨F1, F2, rfl, h1, [], F2, rfl, by rw [RW]; exact ⟨none, 0, rfl, by simp, .inl ⟨rfl, rfl, rfl⟩⟩, h2⟩
  ·rw [zbg _ _ e] at ho
   exact .inl ⟨ho, rfl, fun _ _ hf => hf⟩
 ·intro m ho
  by_cases e : m = pk
  ·subst e; simp [zbk] at ho
  ·rw [zbg _ _ e] at ho; exact hC.dom m ho
 ·intro m ho
  by_cases e : m = pk
  ·subst e; simp [zbk] at ho
  ·rw [zbg _ _ e] at ho; exact hC.fdom m ho
 ·intro m o ho hwr b hb
  by_cases e : m = pk
  ·subst e; exact hC.wok m _ hp rfl b hb
  ·rw [zbg _ _ e] at ho; exact hC.wok m o ho hwr b hb
 ·intro m s' ys' ho b hb
  by_cases e : m = pk
  ·subst e; simp [zbk] at ho
  ·rw [zbg _ _ e] at ho; exact hC.fnew m s' ys' ho b hb
theorem zz7 (n pk S : Nat) {s sz k j : Nat} {xs ys : List (List AV)} {x : List AV} {ps1 ps2 : List (AV × Value)}
 (hn : st.ob n = some (.win sz xs)) (hp : st.ob pk = some (.park (ps1 ++ ps2))) (hS : st.ob S = some (.own s ys)) (hx : xs[k]? = some x) (hj : x[j]? = some (.arr S 0 ys.length))
 (h : ∀ v : Value, v.oneCell' = true → AW P nt fs c Q { st with ob := upd (upd (upd st.ob S (some .dead)) pk (some (.park (ps1 ++ (.sl s ys, v) :: ps2)))) n (some (.win sz (xs.set k (x.set j (.g v))))) }) : AW P nt fs c Q st := by
 intro C a w hnt hfs hCC
 obtain ⟨I, β, φ, hC⟩ := id hCC
 have hnp : n ≠ pk := by rintro rfl; rw [hn] at hp; cases hp
 have hnS : n ≠ S := by rintro rfl; rw [hn] at hS; cases hS
 have hpS : pk ≠ S := by rintro rfl; rw [hp] at hS; cases hS
 obtain ⟨bl, b1, b2, b3, b4, b5⟩ := hC.ob _ _ hn
 obtain ⟨p1, p2⟩ := hC.ob _ _ hp
 obtain ⟨F1, F2, hF, q1, q2⟩ := zh4 p2
 obtain ⟨bs, s1, s2, s3, s4, s5, s6⟩ := hC.ob _ _ hS
 have hb5 : ∃ g1 : φ n = [bl.b], OwnW w bl.b 0 (bl.cap * sz) ∧ RJe w I β bl.b sz 0 xs := by
  rcases b5 with ⟨h0, -⟩ | h0
  ·exfalso
   have : k < xs.length := (List.getElem?_eq_some_iff.1 hx).1
   omega
  ·exact ⟨h0.1, h0.2⟩
 obtain ⟨g1, g2, g3⟩ := hb5
 have g3' := (zgl _ _).1 g3
 obtain ⟨v, hv1, hv2, hv3⟩ := (zd5 _ _).1 (g3' k x hx).2 j _ hj
 refine h v hv3 C a w hnt hfs ?_
 have hrw : ∃ Fv : List Nat, Fv.Sublist (φ S) ∧ RW w (.sl s ys) v Fv := by
  obtain ⟨bs', t1, t2, t3⟩ := hv2
  rw [s1] at t1; cases t1
  have hnil : ∀ a, v = .slice a 0 0 → ys = [] → RW w (.sl s ys) v [] := by
   rintro a rfl rfl
   rw [RW]
   exact ⟨a, 0, rfl, by simp, .inl ⟨rfl, rfl, rfl⟩⟩
  rcases s6 with ⟨c0, hF0⟩ | ⟨F', f1, f2, f3⟩
  ·have hys : ys = [] := by
    have : ys.length = 0 := by omega
    simpa using this
   refine ⟨[], List.nil_sublist _, ?_⟩
   rcases t3 with h3 | ⟨-, a, h3⟩
   ·exact hnil _ (h3.trans (by rw [hys, c0]; rfl)) hys
   ·exact hnil a h3 hys
  ·rcases t3 with h3 | ⟨c0, a, h3⟩
   ·refine ⟨φ S, List.Sublist.refl _, ?_⟩
    rw [RW]
    exact ⟨_, bs.cap, h3, s4, .inr ⟨bs.b, F', by simp [s3], f1, f2, f3⟩⟩
   ·have hys : ys = [] := by
     have : ys.length = 0 := by omega
     simpa using this
    exact ⟨[], List.nil_sublist _, hnil a h3 hys⟩
 obtain ⟨Fv, hFs, hFr⟩ := hrw
 have hnv : Fv.Nodup := s5.sublist hFs
 have hnd : (F1 ++ (Fv ++ F2)).Nodup := by
  rw [hF] at p1
  obtain ⟨d1, d2, d3⟩ := List.nodup_append.1 p1
  have hx1 : ∀ b ∈ Fv, ∀ b' ∈ F1 ++ F2, b ≠ b' := by
   rintro b hb b' hb' rfl
   exact hC.sep S pk (Ne.symm hpS) b (hFs.subset hb) (by rw [hF]; exact hb')
  refine List.nodup_append.2 ⟨d1, List.nodup_append.2 ⟨hnv, d2, fun a ha b hb => hx1 a ha b (List.mem_append.2 (.inr hb))⟩, fun a ha b hb => ?_⟩
  rcases List.mem_append.1 hb with hb | hb
  ·exact fun e => hx1 b hb a (List.mem_append.2 (.inl ha)) e.symm
  ·exact d3 a ha b hb
 refine ⟨I, β, upd (upd φ S []) pk (F1 ++ (Fv ++ F2)), ?_⟩
 have hm : ∀ m b, b ∈ upd (upd φ S []) pk (F1 ++ (Fv ++ F2)) m → (m = pk ∧ (b ∈ φ pk ∨ b ∈ φ S)) ∨ (m ≠ pk ∧ m ≠ S ∧ b ∈ φ m) := by
  intro m b hb
  by_cases e1 : m = pk
  ·subst e1; rw [zbk] at hb
   refine .inl ⟨rfl, ?_⟩
   rw [hF]
   rcases List.mem_append.1 hb with h | h
   ·exact .inl (by simp [h])
   ·rcases List.mem_append.1 h with h | h
    ·exact .inr (hFs.subset h)
    ·exact .inl (by simp [h])
  ·rw [zbg _ _ e1] at hb
   by_cases e2 : m = S
   ·subst e2; simp [zbk] at hb
   ·rw [zbg _ _ e2] at hb; exact .inr ⟨e1, e2, hb⟩
 have hdom : ∀ m, upd (upd (upd st.ob S (some OB.dead)) pk (some (OB.park (ps1 ++ (.sl s ys, v) :: ps2)))) n (some (OB.win sz (xs.set k (x.set j (.g v))))) m = none → m ≠ n ∧ m ≠ pk ∧ m ≠ S ∧ st.ob m = none := by
  intro m ho
  by_cases e1 : m = n
  ·subst e1; simp [zbk] at ho
  ·rw [zbg _ _ e1] at ho
   by_cases e2 : m = pk
   ·subst e2; simp [zbk] at ho
   ·rw [zbg _ _ e2] at ho
    by_cases e3 : m = S
    ·subst e3; simp [zbk] at ho
    ·rw [zbg _ _ e3] at ho; exact ⟨e1, e2, e3, ho⟩
 refine hC.move (fun _ => False) (Evo.refl _ w) (fun _ hf => hf.elim) (fun _ hb => hb) (fun _ hb => .inl hb) (fun _ _ h => h) ?_ ?_ ?_ ?_ ?_ ?_ ?_ ?_
 ·intro m o ho
  by_cases e1 : m = n
  ·subst e1
   simp only [zbk, Option.some.injEq] at ho
   subst ho
   right
   rw [zbg _ _ hnp, zbg _ _ hnS]
   refine ⟨bl, b1, b2, b3, by simpa using b4, .inr ⟨g1, g2, ?_⟩⟩
   rw [zgl]
   intro i x' hx'
   rw [List.getElem?_set] at hx'
   by_cases hk : k = i
   ·subst hk
    obtain ⟨f1, f2⟩ := g3' k x hx
    rw [if_pos rfl] at hx'
    split at hx'
    ·cases hx'
     refine ⟨by simpa using f1, ?_⟩
     rw [zd5] at f2 ⊢
     intro jj d hd
     rw [List.getElem?_set] at hd
     by_cases hjj : j = jj
     ·subst hjj
      rw [if_pos rfl] at hd
      split at hd
      ·cases hd
       exact ⟨v, hv1, rfl, hv3⟩
      ·cases hd
     ·rw [if_neg hjj] at hd
      exact f2 jj d hd
    ·cases hx'
   ·rw [if_neg hk] at hx'
    exact g3' i x' hx'
  ·rw [zbg _ _ e1] at ho
   by_cases e2 : m = pk
   ·subst e2
    simp only [zbk, Option.some.injEq] at ho
    subst ho
    exact .inr (by rw [zbk]; exact ⟨hnd, (zgx _ _ _).2 ⟨F1, Fv ++ F2, rfl, q1, Fv, F2, rfl, hFr, q2⟩⟩)
   ·rw [zbg _ _ e2] at ho
    by_cases e3 : m = S
    ·subst e3
     simp only [zbk, Option.some.injEq] at ho
     subst ho
     exact .inr (by rw [zbg _ _ e2, zbk]; rfl)
    ·rw [zbg _ _ e3] at ho
     exact .inl ⟨ho, by rw [zbg _ _ e2, zbg _ _ e3], fun _ _ hf => hf⟩
 ·intro m ho
  exact hC.dom m (hdom m ho).2.2.2
 ·intro m ho
  obtain ⟨e1, e2, e3, e4⟩ := hdom m ho
  rw [zbg _ _ e2, zbg _ _ e3]; exact hC.fdom m e4
 ·intro m m' hmm b hb hb'
  rcases hm m b hb with ⟨rfl, g⟩ | ⟨e1, e2, g⟩
  ·rcases hm m' b hb' with ⟨rfl, -⟩ | ⟨e3, e4, g'⟩
   ·exact hmm rfl
   ·rcases g with g | g
    ·exact hC.sep m m' hmm b g g'
    ·exact hC.sep S m' (Ne.symm e4) b g g'
  ·rcases hm m' b hb' with ⟨rfl, g'⟩ | ⟨e3, e4, g'⟩
   ·rcases g' with g' | g'
    ·exact hC.sep m m' hmm b g g'
    ·exact hC.sep m S e2 b g g'
   ·exact hC.sep m m' hmm b g g'
 ·intro m b hb
  rcases hm m b hb with ⟨-, g | g⟩ | ⟨-, -, g⟩
  ·exact hC.nimm pk b g
  ·exact hC.nimm S b g
  ·exact hC.nimm m b g
 ·intro m b hb
  rcases hm m b hb with ⟨-, g | g⟩ | ⟨-, -, g⟩
  ·exact hC.flt pk b g
  ·exact hC.flt S b g
  ·exact hC.flt m b g
 ·intro m o ho hwr b hb
  rcases hm m b hb with ⟨-, g | g⟩ | ⟨e1, e2, g⟩
  ·exact hC.wok pk _ hp rfl b g
  ·exact hC.wok S _ hS rfl b g
  ·by_cases e3 : m = n
   ·subst e3; exact hC.wok m _ hn rfl b g
   ·rw [zbg _ _ e3, zbg _ _ e1, zbg _ _ e2] at ho
    exact hC.wok m o ho hwr b g
 ·intro m s' ys' ho b hb
  by_cases e3 : m = n
  ·subst e3; simp [zbk] at ho
  ·rw [zbg _ _ e3] at ho
   by_cases e1 : m = pk
   ·subst e1; simp [zbk] at ho
   ·rw [zbg _ _ e1] at ho
    by_cases e2 : m = S
    ·subst e2; simp [zbk] at ho
    ·rw [zbg _ _ e2] at ho
     rcases hm m b hb with ⟨e, -⟩ | ⟨-, -, g⟩
     ·exact (e1 e).elim
     ·exact hC.fnew m s' ys' ho b g
theorem zlv (n : Nat) {sz : Nat} {xs : List (List AV)} (hn : st.ob n = some (.win sz xs)) (hne : 0 < xs.length)
 (h : ∀ c0 : Nat, xs.length ≤ c0 → AW P nt fs c Q { st with ob := upd st.ob n (some (.winc sz xs c0)) }) : AW P nt fs c Q st := by
 intro C a w hnt hfs hCC
 obtain ⟨I, β, φ, hC⟩ := id hCC
 obtain ⟨bl, b1, b2, b3, b4, b5⟩ := hC.ob _ _ hn
 rcases b5 with ⟨h0, -⟩ | ⟨b5, b6, b7⟩
 ·omega
 refine h bl.cap b4 C a w hnt hfs ⟨I, β, φ, ?_⟩
 have hdom : ∀ m, upd st.ob n (some (OB.winc sz xs bl.cap)) m = none → st.ob m = none := by
  intro m ho
  by_cases e : m = n
  ·subst e; simp [zbk] at ho
  ·rwa [zbg _ _ e] at ho
 refine hC.move (fun _ => False) (Evo.refl _ w) (fun _ hf => hf.elim) (fun _ hb => hb) (fun _ hb => .inl hb) (fun _ _ h => h) ?_ (fun m ho => hC.dom m (hdom m ho)) (fun m ho => hC.fdom m (hdom m ho)) hC.sep hC.nimm hC.flt ?_ ?_
 ·intro m o ho
  by_cases e : m = n
  ·subst e
   simp only [zbk, Option.some.injEq] at ho
   subst ho
   exact .inr ⟨bl, b1, b2, b3, b4, rfl, b5, b6, b7⟩
  ·rw [zbg _ _ e] at ho
   exact .inl ⟨ho, rfl, fun _ _ hf => hf⟩
 ·intro m o ho hwr b hb
  by_cases e : m = n
  ·subst e; exact hC.wok m _ hn rfl b hb
  ·rw [zbg _ _ e] at ho; exact hC.wok m o ho hwr b hb
 ·intro m s' ys' ho b hb
  by_cases e : m = n
  ·subst e; simp [zbk] at ho
  ·rw [zbg _ _ e] at ho; exact hC.fnew m s' ys' ho b hb
theorem LeS.cwin (n : Nat) {sz c0 : Nat} {xs : List (List AV)} (hn : st.ob n = some (.winc sz xs c0)) : LeS fs st { st with ob := upd st.ob n (some (.win sz xs)) } := by
 rintro C a w hfs ⟨I, β, φ, hC⟩
 obtain ⟨bl, b1, b2, b3, b4, b5, b6, b7, b8⟩ := hC.ob _ _ hn
 have hdom : ∀ m, upd st.ob n (some (OB.win sz xs)) m = none → st.ob m = none := by
  intro m ho
  by_cases e : m = n
  ·subst e; simp [zbk] at ho
  ·rwa [zbg _ _ e] at ho
 refine ⟨I, β, φ, hC.move (fun _ => False) (Evo.refl _ w) (fun _ hf => hf.elim) (fun _ hb => hb) (fun _ hb => .inl hb) (fun _ _ h => h) ?_ (fun m ho => hC.dom m (hdom m ho)) (fun m ho => hC.fdom m (hdom m ho)) hC.sep hC.nimm hC.flt ?_ ?_⟩
 ·intro m o ho
  by_cases e : m = n
  ·subst e
   simp only [zbk, Option.some.injEq] at ho
   subst ho
   exact .inr ⟨bl, b1, b2, b3, b4, .inr ⟨b6, b7, b8⟩⟩
  ·rw [zbg _ _ e] at ho
   exact .inl ⟨ho, rfl, fun _ _ hf => hf⟩
 ·intro m o ho hwr b hb
  by_cases e : m = n
  ·subst e; exact hC.wok m _ hn rfl b hb
  ·rw [zbg _ _ e] at ho; exact hC.wok m o ho hwr b hb
 ·intro m s' ys' ho b hb
  by_cases e : m = n
  ·subst e; simp [zbk] at ho
  ·rw [zbg _ _ e] at ho; exact hC.fnew m s' ys' ho b hb
end
theorem ux_sc (q : Nat → Value) : ∀ (cs : List AV) (j : Nat), cs.all scal0 = true → ux q j cs = cs ∧ pkc q j cs = []
 | [], _, _ => ⟨rfl, rfl⟩
 | c :: cs, j, h => by
  rw [List.all_cons, Bool.and_eq_true] at h
  obtain ⟨h1, h2⟩ := ux_sc q cs (j + 1) h.2
  have : unn c (q j) = c ∧ nst c = false := by
   obtain ⟨h, -⟩ := h
   cases c <;> simp [scal0] at h <;> exact ⟨rfl, rfl⟩
  rw [ux, pkc, h1, h2, this.1, this.2]
  exact ⟨rfl, rfl⟩
theorem AW_ow {P : Program} {nt : Nat} {fs : List Nat} {Q : AExit → St → Prop} {st : St} {c : Code} (n pk : Nat) {sz : Nat} {xs : List (List AV)} (hs : scR xs = true) (hob : st.ob n = some (.own sz xs)) (hpk : st.ob pk = none)
 (h : AW P nt fs c Q { st with ob := upd (upd st.ob pk (some (.park []))) n (some (.win sz xs)) }) : AW P nt fs c Q st := by
 refine zpc (fun x : List AV => x) n pk (us := xs) (by simpa using hob) hpk fun zs hz hone => ?_
 have hz2 : ∀ z ∈ zs, z.1.all scal0 = true := fun z hz' => List.all_eq_true.1 hs z.1 (hz ▸ List.mem_map_of_mem hz')
 have e1 : (zs.map fun z => ux z.2 0 z.1) = xs := by
  rw [← hz]
  exact List.map_congr_left fun z hz' => (ux_sc z.2 z.1 0 (hz2 z hz')).1
 have e2 : (zs.flatMap fun z => pkc z.2 0 z.1) = [] := by
  rw [List.flatMap_eq_nil_iff]
  exact fun z hz' => (ux_sc z.2 z.1 0 (hz2 z hz')).2
 rw [e1, e2]
 exact h
end Go.Proofs.YtmheohnbkaoipaaGreat.Vs
end

import Derived.Test.YtpaccfeiaekacaaVsJ
namespace Go.Proofs.Ytpaccfeiaekacaa.Vs
set_option linter.unusedVariables false
set_option linter.unusedSimpArgs false
set_option linter.unusedSectionVars false
set_option linter.unnecessarySimpa false
set_option linter.all false
open Go.RowKit
variable {P : Program}
/-- An append of nothing where there is room. -/
theorem run_append_none (w : World) (t ty e : TypeId) (i : TypeInfo) (ht : P.underlying t = some (.slice e)) (hi : P.info? e = some i) (base a' : Option Addr) (len cap cap' : Nat) (h : len ≤ cap) :
    (Builtin.append_ #[t, t] ty #[.slice base len cap, .slice a' 0 cap']).run P w = .ok (.slice base len cap) w := by
  cases base <;> cases a' <;> simp [Builtin.append_, run_underlying ht, sizeOf, typeInfo, hi, Builtin.lenOf, h, Builtin.firstCells, loadCells, loadCellsFrom, storeCells]
/-- An append of nothing to nothing, beyond the capacity, does not occur; of nothing to something: run_append_none. -/
theorem run_append_room' (w : World) (t ty e ety : TypeId) (i : TypeInfo) (ht : P.underlying t = some (.slice e)) (hi : P.info? e = some i)
    (g sLen sCap : Nat) (cur : Array Value) (hg : w.heap[g]? = some (.cells cur ety (0, 0)))
    (a : Addr) (m c : Nat) (news : List Value) (hl : news.length = m * i.size) (hnews : ∀ (j : Nat) u, news[j]? = some u → w.cell? (a.add j) = some u) (h1 : ∀ u ∈ news, u.oneCell' = true)
    (hroom : sLen + m ≤ sCap) (hfit : sLen * i.size + news.length ≤ cur.size) :
    (Builtin.append_ #[t, t] ty #[.slice (some ⟨g, 0, none⟩) sLen sCap, .slice (some a) m c]).run P w =
      .ok (.slice (some ⟨g, 0, none⟩) (sLen + m) sCap) (w.setRow g (cur.toList.take (sLen * i.size) ++ news ++ cur.toList.drop (sLen * i.size + news.length)).toArray) := by
  have hf := run_firstCells_some (P := P) w i.size m a m c news hl hnews
  have hst := run_storeCells_at P g (sLen * i.size) ety news 0 cur w hg (by simpa using hfit) h1
  simp only [Nat.add_zero] at hst
  simp [Builtin.append_, run_underlying ht, sizeOf, typeInfo, hi, Builtin.lenOf, hroom, hf, Addr.add_lit, hst]
theorem zeroCells_size (z : Array Value) (n : Nat) : (Builtin.zeroCells z n).size = n * z.size := by simp [Builtin.zeroCells]
section
variable {C : Cx} {st : St} {a : Act} {w : World} {I : Nat → Prop} {β : Beta} {φ : Nat → List Nat}
/-- A grown row: the old elements, the new ones, and room. -/
theorem grown_sound (hC : Conc C st a w I β φ) {nm : Nat} (hn : st.ob nm = none) {e : TypeId} {sz : Nat} (z : Array Value) (hz : z.size = sz) {os ns : List Value} {xs ys : List (List AV)} (hol : os.length = xs.length * sz) (hnl : ns.length = ys.length * sz)
    (ho : ∀ (i : Nat) x, xs[i]? = some x → x.length = sz ∧ ∀ (j : Nat) c, x[j]? = some c → ∃ v, os[i * sz + j]? = some v ∧ RI w I c v)
    (hy : ∀ (i : Nat) x, ys[i]? = some x → x.length = sz ∧ ∀ (j : Nat) c, x[j]? = some c → ∃ v, ns[i * sz + j]? = some v ∧ RI w I c v)
    (cap : Nat) (hcap : xs.length + ys.length ≤ cap) (arr : Array Value) (harr : arr = os.toArray ++ ns.toArray ++ Builtin.zeroCells z (cap - (xs.length + ys.length))) :
    ∃ β' φ', Conc C { st with ob := upd st.ob nm (some (.flat sz (xs ++ ys))) } a (w.drew.alloc (.cells arr e)) I β' φ' ∧ β' nm = some ⟨w.heap.size, 0, sz, cap⟩ := by
  have hasz : cap * sz ≤ arr.size := by
    rw [harr]
    simp only [Array.size_append, List.size_toArray, zeroCells_size, hol, hnl, hz]
    rw [← Nat.add_mul, ← Nat.add_mul]
    exact Nat.mul_le_mul_right _ (by omega)
  refine newFlat hC.drew hn arr e (by simp; omega) hasz ?_
  intro i x hx
  have hlen : os.length = xs.length * sz := hol
  by_cases hi : i < xs.length
  · rw [List.getElem?_append_left hi] at hx
    obtain ⟨h1, h2⟩ := ho i x hx
    refine ⟨h1, fun j c hc => ?_⟩
    obtain ⟨v, hv, hr⟩ := h2 j c hc
    refine ⟨v, ?_, RI_mono (w := w) (w' := w.drew) (fun _ h => h) (fun _ _ => rfl) c v hr⟩
    rw [harr, Array.append_assoc, Array.getElem?_append_left (by simpa using (List.getElem?_eq_some_iff.1 hv).1)]
    simpa using hv
  · rw [List.getElem?_append_right (by omega)] at hx
    obtain ⟨h1, h2⟩ := hy _ x hx
    refine ⟨h1, fun j c hc => ?_⟩
    obtain ⟨v, hv, hr⟩ := h2 j c hc
    refine ⟨v, ?_, RI_mono (w := w) (w' := w.drew) (fun _ h => h) (fun _ _ => rfl) c v hr⟩
    have hidx : i * sz + j - os.length = (i - xs.length) * sz + j := by
      have : i * sz = xs.length * sz + (i - xs.length) * sz := by rw [← Nat.add_mul]; congr 1; omega
      rw [hol, this]; omega
    have hge : os.length ≤ i * sz + j := by
      have : xs.length * sz ≤ i * sz := Nat.mul_le_mul_right _ (by omega)
      rw [hol]; omega
    have hvl := (List.getElem?_eq_some_iff.1 hv).1
    rw [harr, Array.append_assoc, Array.getElem?_append_right (by simpa using hge)]
    simp only [List.size_toArray]
    rw [hidx, Array.getElem?_append_left (by simpa using hvl)]
    simpa using hv
theorem append_sound (hC : Conc C st a w I β φ) {nm : Nat} {ts : List TypeId} {ty : TypeId} {s x v : AV} {p y : Value} {c : Prop} {u : Ups} (hs : Rv w I β s p) (hx : Rv w I β x y)
    (h : aAppend P st nm ts s x = some (c, v, u)) (hc : c) : Good P C st a w (Builtin.append_ ts.toArray ty #[p, y]) v u := by
  unfold aAppend at h
  split at h
  · rename_i t t'
    split at h
    · rename_i T hT
      obtain ⟨d, i, z, hd, hi, hz, rfl⟩ := ti_spec hT
      simp only at h
      split at h
      · rename_i e hk
        cases d <;> simp only [tkOf, TK.slice.injEq, reduceCtorEq] at hk
        rw [hk] at hd
        split at h
        · rename_i E hE
          obtain ⟨d', i', z', hd', hi', hz', rfl⟩ := ti_spec hE
          simp only at h
          split at h
          · rename_i q ys hnews
            split at h
            · -- nil
              cases h
              obtain ⟨hq, hn, rfl, hpos, hzs, h47, h62⟩ := hc
              have hn' : st.ob nm = none := by simpa using hn
              have hzs' : z'.cells.size = i'.size := by simpa using hzs
              cases hs
              rcases news_spec hC hnews hq hx with ⟨rfl, a', cap', rfl⟩ | ⟨b, o, cap', rfl, hr⟩
              · obtain ⟨β', φ', hC', hβ⟩ := hC.newEmpty (sz := i'.size) hn'
                exact ⟨_, w, I, β', φ', run_append_none w t ty e i' hd hi' none a' 0 0 cap' (Nat.le_refl _), ⟨_, hβ, by simp, .inr ⟨rfl, none, rfl⟩⟩, hC'⟩
              · rcases Nat.eq_zero_or_pos ys.length with h0 | h0
                · have hy0 : ys = [] := List.length_eq_zero_iff.1 h0
                  subst hy0
                  obtain ⟨β', φ', hC', hβ⟩ := hC.newEmpty (sz := i'.size) hn'
                  exact ⟨_, w, I, β', φ', run_append_none w t ty e i' hd hi' none _ 0 0 cap' (Nat.le_refl _), ⟨_, hβ, by simp, .inr ⟨rfl, none, rfl⟩⟩, hC'⟩
                · obtain ⟨vs, hl, hcell, hone, hel⟩ := RIe_vals _ _ hr
                  have hrun := run_append_nil (P := P) w t ty e i' z' hd hi' hz' ⟨b, o, none⟩ ys.length cap' vs hl (fun j v hv => by rw [Addr.add_lit]; exact hcell j v hv) h0 (by omega) (by omega)
                  obtain ⟨β', φ', hC', hβ⟩ := grown_sound (e := e) hC hn' z'.cells hzs' (os := []) (xs := []) (ns := vs) (ys := ys) (by simp) hl (by simp) hel (grownCap w ys.length 0 e) (by simpa using grownCap_ge w ys.length 0 e) _ rfl
                  simp only [List.length_nil, Nat.zero_add, List.nil_append, Array.empty_append] at hC'
                  exact ⟨_, _, I, β', φ', hrun, ⟨_, hβ, by simpa using grownCap_ge w ys.length 0 e, .inl (by simp)⟩, hC'⟩
            · -- an own row
              rename_i n len
              split at h
              · rename_i sz xs hob
                split at h
                · rename_i hsz
                  cases h
                  obtain ⟨hq, hn, rfl, hpos, hzs, hlx, h47, h62⟩ := hc
                  have hn' : st.ob nm = none := by simpa using hn
                  have hzs' : z'.cells.size = i'.size := by simpa using hzs
                  obtain ⟨bl, hb, hle, hp⟩ := hs
                  obtain ⟨bl', hb', h1, h2, h3, h4⟩ := hC.ob _ _ hob
                  rw [hb] at hb'; cases hb'
                  subst h1
                  replace hsz : bl.sz = i'.size := hsz
                  rw [Nat.zero_mul, Nat.add_zero, Nat.sub_zero, h2] at hp
                  have hdead : ∀ (w' : World) (β' : Beta) (φ' : Nat → List Nat) (zs : List (List AV)), Conc C { st with ob := upd st.ob nm (some (.flat bl.sz zs)) } a w' I β' φ' →
                      Conc C { st with ob := upd (upd st.ob n (some .dead)) nm (some (.flat bl.sz zs)) } a w' I β' (upd φ' n []) := by
                    intro w' β' φ' zs hC'
                    have hne : n ≠ nm := by rintro rfl; rw [hob] at hn'; cases hn'
                    have hφ : ∀ m b, b ∈ upd φ' n [] m → m ≠ n ∧ b ∈ φ' m := by
                      intro m b hb
                      by_cases h2 : m = n
                      · subst h2; simp [upd_same] at hb
                      · rw [upd_other _ _ h2] at hb; exact ⟨h2, hb⟩
                    have hdom : ∀ m, upd (upd st.ob n (some OB.dead)) nm (some (OB.flat bl.sz zs)) m = none → m ≠ n ∧ upd st.ob nm (some (OB.flat bl.sz zs)) m = none := by
                      intro m ho
                      by_cases h1 : m = nm
                      · subst h1; simp [upd_same] at ho
                      · rw [upd_other _ _ h1] at ho ⊢
                        by_cases h2 : m = n
                        · subst h2; simp [upd_same] at ho
                        · rw [upd_other _ _ h2] at ho; exact ⟨h2, ho⟩
                    refine hC'.move (fun _ => False) (Evo.refl _ w') (fun _ hf => hf.elim) (fun _ hb => hb) (fun _ hb => .inl hb) (fun _ _ hb => hb) ?_ (fun m ho => hC'.dom m (hdom m ho).2) ?_ ?_ ?_ ?_ ?_ ?_
                    · intro m o ho
                      by_cases h2 : m = n
                      · subst h2
                        rw [upd_other _ _ hne, upd_same] at ho
                        cases ho
                        exact .inr (by rw [upd_same]; rfl)
                      · refine .inl ⟨?_, upd_other _ _ h2, fun _ _ hf => hf⟩
                        by_cases h1 : m = nm
                        · subst h1; simpa only [upd_same] using ho
                        · rw [upd_other _ _ h1, upd_other _ _ h2] at ho
                          show upd st.ob nm (some (OB.flat bl.sz zs)) m = some o
                          rw [upd_other _ _ h1]; exact ho
                    · intro m ho
                      rw [upd_other _ _ (hdom m ho).1]; exact hC'.fdom m (hdom m ho).2
                    · intro m k hmk b hb hb'
                      exact hC'.sep m k hmk b (hφ m b hb).2 (hφ k b hb').2
                    · intro m b hb; exact hC'.nimm m b (hφ m b hb).2
                    · intro m b hb; exact hC'.flt m b (hφ m b hb).2
                    · intro m cs ho hwr b hb
                      obtain ⟨h2, h3⟩ := hφ m b hb
                      refine hC'.wok m cs ?_ hwr b h3
                      show upd st.ob nm (some (OB.flat bl.sz zs)) m = some cs
                      by_cases h1 : m = nm
                      · subst h1; simp only [upd_same, Option.some.injEq] at ho ⊢; exact ho
                      · rw [upd_other _ _ h1, upd_other _ _ h2] at ho
                        rw [upd_other _ _ h1]; exact ho
                    · intro m s ys ho b hb
                      obtain ⟨h2, h3⟩ := hφ m b hb
                      refine hC'.fnew m s ys ?_ b h3
                      show upd st.ob nm (some (OB.flat bl.sz zs)) m = some (.flat s ys)
                      by_cases h1 : m = nm
                      · subst h1; simpa only [upd_same] using ho
                      · rw [upd_other _ _ h1, upd_other _ _ h2] at ho
                        rw [upd_other _ _ h1]; exact ho
                  have hxl : (xs.take len).length = len := by simp; omega
                  have htake : bl.cap = 0 ∨ RIe w I bl.b bl.sz 0 (xs.take len) := h4.imp (·.1) (fun h => RIe_take _ _ len h.2.2)
                  -- the elements that come
                  have hyy : (ys = [] ∧ ∃ a' cap', y = .slice a' 0 cap') ∨ (0 < ys.length ∧ ∃ b o cap', y = .slice (some ⟨b, o, none⟩) ys.length cap' ∧ RIe w I b i'.size o ys) := by
                    rcases news_spec hC hnews hq hx with h | ⟨b, o, cap', h, hr⟩
                    · exact .inl h
                    · rcases Nat.eq_zero_or_pos ys.length with h0 | h0
                      · exact .inl ⟨List.length_eq_zero_iff.1 h0, _, _, by rw [h, h0]⟩
                      · exact .inr ⟨h0, b, o, cap', h, hr⟩
                  rw [← hsz]
                  rcases hyy with ⟨rfl, a', cap', rfl⟩ | ⟨hy0, b, o, cap', rfl, hr⟩
                  · have hC' := hC.rename (zs := xs.take len) hob hn' hb (Evo.refl _ w) ⟨bl, upd_same _ _ _, rfl, h2, by simp; omega, h4.imp id fun h => ⟨h.1, h.2.1, RIe_take _ _ len h.2.2⟩⟩
                    rw [List.append_nil]
                    rcases hp with rfl | ⟨h0, a0, rfl⟩
                    · exact ⟨_, w, I, _, _, run_append_none w t ty e i' hd hi' _ a' len bl.cap cap' (by omega), ⟨bl, upd_same _ _ _, by simp; omega, .inl (by simp [h2])⟩, hC'⟩
                    · have hl0 : len = 0 := by omega
                      subst hl0
                      exact ⟨_, w, I, _, _, run_append_none w t ty e i' hd hi' a0 a' 0 0 cap' (by omega), ⟨bl, upd_same _ _ _, by simp, .inr ⟨h0, a0, rfl⟩⟩, hC'⟩
                  · rw [← hsz] at hr
                    obtain ⟨vs, hl, hcell, hone, hel⟩ := RIe_vals _ _ hr
                    have hcell' : ∀ (j : Nat) v, vs[j]? = some v → w.cell? ((⟨b, o, none⟩ : Addr).add j) = some v := fun j v hv => by rw [Addr.add_lit]; exact hcell j v hv
                    by_cases hroom : len + ys.length ≤ bl.cap
                    · rcases hp with rfl | ⟨h0, a0, rfl⟩
                      · rcases h4 with ⟨h4, -⟩ | ⟨hφ, ⟨arr, ety, hh, hsize⟩, hrc⟩
                        · omega
                        · have hbig : len * bl.sz + ys.length * bl.sz ≤ bl.cap * bl.sz := by rw [← Nat.add_mul]; exact Nat.mul_le_mul_right _ hroom
                          have hrun := run_append_room' (P := P) w t ty e ety i' hd hi' bl.b len bl.cap arr hh ⟨b, o, none⟩ ys.length cap' vs (by rw [hl, hsz]) hcell' hone hroom (by rw [← hsz, hl]; omega)
                          have hlen' : (arr.toList.take (len * i'.size)).length = len * bl.sz := by simp; rw [hsz] at hbig hsize ⊢; omega
                          have hnew := setRow_heap w bl.b arr (arr.toList.take (len * i'.size) ++ vs ++ arr.toList.drop (len * i'.size + vs.length)).toArray ety (0, 0) hh
                          have hev : ∀ b, I b → (w.setRow bl.b (arr.toList.take (len * i'.size) ++ vs ++ arr.toList.drop (len * i'.size + vs.length)).toArray).heap[b]? = w.heap[b]? := fun b hb' => setRow_other w bl.b b _ (by rintro rfl; exact hC.nimm n _ (by rw [hφ]; simp) hb')
                          have hspl : ∀ k, (w.setRow bl.b (arr.toList.take (len * i'.size) ++ vs ++ arr.toList.drop (len * i'.size + vs.length)).toArray).cell? ⟨bl.b, k, none⟩ =
                              if len * bl.sz ≤ k ∧ k < len * bl.sz + vs.length then vs[k - len * bl.sz]? else arr[k]? := by
                            intro k
                            have hfit2 : len * i'.size + vs.length ≤ arr.toList.length := by rw [Array.length_toList (xs := arr), hl, ← hsz]; omega
                            rw [cell_row hnew, List.getElem?_toArray, splice_get _ _ _ hfit2, hsz]
                            simp
                          have hro : RO (w.setRow bl.b (arr.toList.take (len * i'.size) ++ vs ++ arr.toList.drop (len * i'.size + vs.length)).toArray) I (upd β nm (some bl)) nm (.flat bl.sz (xs.take len ++ ys)) (φ n) := by
                            refine ⟨bl, upd_same _ _ _, rfl, h2, by simp; omega, .inr ⟨hφ, ⟨_, ety, hnew, by simp; omega⟩, ?_⟩⟩
                            refine RIe_append _ _ _ ?_ ?_
                            · rw [RIe_iff]
                              intro i x hxi
                              obtain ⟨k1, k2⟩ := RIe_get _ _ _ _ (RIe_take _ _ len hrc) hxi
                              refine ⟨k1, ?_⟩
                              rw [RIc_iff] at k2 ⊢
                              intro j c hc
                              obtain ⟨v, hv, hrv⟩ := k2 j c hc
                              refine ⟨v, ?_, RI_mono (fun _ h => h) hev c v hrv⟩
                              have hj : j < bl.sz := by rw [← k1]; exact (List.getElem?_eq_some_iff.1 hc).1
                              have hi2 : i < len := by have := (List.getElem?_eq_some_iff.1 hxi).1; omega
                              have : (i + 1) * bl.sz ≤ len * bl.sz := Nat.mul_le_mul_right _ hi2
                              rw [Nat.add_mul, Nat.one_mul] at this
                              rw [hspl, if_neg (by omega)]
                              rwa [cell_row hh] at hv
                            · rw [RIe_iff]
                              intro i y hyi
                              obtain ⟨k1, k2⟩ := hel i y hyi
                              refine ⟨k1, ?_⟩
                              rw [RIc_iff]
                              intro j c hc
                              obtain ⟨v, hv, hrv⟩ := k2 j c hc
                              have hvl := (List.getElem?_eq_some_iff.1 hv).1
                              refine ⟨v, ?_, RI_mono (fun _ h => h) hev c v hrv⟩
                              rw [hspl, hxl, if_pos (by omega), ← hv]
                              congr 1; omega
                          have hC' := hC.rename (zs := xs.take len ++ ys) hob hn' hb (evo_setRow w bl.b _ _ (by rw [hφ]; simp)) hro
                          exact ⟨_, _, I, _, _, hrun, ⟨bl, upd_same _ _ _, by omega, .inl (by simp [h2])⟩, hC'⟩
                      · omega
                    · have hns : (∃ os : List Value, os.length = (xs.take len).length * bl.sz ∧ (∀ (j : Nat) v, os[j]? = some v → w.cell? ⟨bl.b, 0 + j, none⟩ = some v) ∧
                          ∀ (i : Nat) x, (xs.take len)[i]? = some x → x.length = bl.sz ∧ ∀ (j : Nat) c, x[j]? = some c → ∃ v, os[i * bl.sz + j]? = some v ∧ RI w I c v) := by
                        rcases htake with h0 | h0
                        · have : xs.take len = [] := List.length_eq_zero_iff.1 (by omega)
                          rw [this]
                          exact ⟨[], by simp, by simp, by simp⟩
                        · obtain ⟨os, g1, g2, g3, g4⟩ := RIe_vals _ _ h0
                          exact ⟨os, g1, g2, g4⟩
                      obtain ⟨os, hol, hoc, hoel⟩ := hns
                      obtain ⟨β', φ', hC', hβ⟩ := grown_sound (e := e) hC hn' z'.cells (hzs'.trans hsz.symm) hol hl hoel hel (grownCap w (len + ys.length) bl.cap e) (by rw [hxl]; exact grownCap_ge w _ _ e) _ rfl
                      have hC'' := hdead _ _ _ _ hC'
                      have hne : n ≠ nm := by rintro rfl; rw [hob] at hn'; cases hn'
                      rw [hxl] at hC'' hol
                      refine ⟨_, _, I, β', _, ?_, ⟨_, hβ, ?_, .inl rfl⟩, hC''⟩
                      · rcases hp with rfl | ⟨h0, a0, rfl⟩
                        · have := run_append_grow (P := P) w t ty e i' z' hd hi' hz' ⟨bl.b, 0, none⟩ len bl.cap os (by rw [hol, hsz]) (fun j v hv => by rw [Addr.add_lit]; exact hoc j v hv) ⟨b, o, none⟩ ys.length cap' vs (by rw [hl, hsz]) hcell' (by omega) (by omega)
                            (growslice_fits (by omega) (by omega))
                          simpa using this
                        · have hl0 : len = 0 := by omega
                          subst hl0
                          have ho0 : os = [] := List.length_eq_zero_iff.1 (by simpa using hol)
                          subst ho0
                          cases a0 with
                          | none =>
                            have := run_append_nil (P := P) w t ty e i' z' hd hi' hz' ⟨b, o, none⟩ ys.length cap' vs (by rw [hl, hsz]) hcell' hy0 (by omega) (by have h := h47; rw [Nat.zero_add] at h; exact Nat.le_trans h (by decide))
                            simpa [← h0] using this
                          | some a0 =>
                            have := run_append_grow (P := P) w t ty e i' z' hd hi' hz' a0 0 0 [] (by simp) (by simp) ⟨b, o, none⟩ ys.length cap' vs (by rw [hl, hsz]) hcell' (by omega) (by omega)
                              (growslice_fits (by omega) (by omega))
                            simpa [← h0] using this
                      · simpa using grownCap_ge w (len + ys.length) bl.cap e
                · cases h
              · cases h
            · cases h
          · cases h
        · cases h
      · cases h
    · cases h
  · cases h
end
end Go.Proofs.Ytpaccfeiaekacaa.Vs

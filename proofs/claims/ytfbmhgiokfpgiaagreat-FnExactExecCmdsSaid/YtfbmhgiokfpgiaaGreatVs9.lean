import Derived.Test.YtfbmhgiokfpgiaaGreatVs8
import Derived.Shelf.SlSortCmp.NoneTotal
section
open Go
namespace Go.Proofs.YtfbmhgiokfpgiaaGreat.Vs
set_option linter.all false
open Go.RowKit
set_option linter.unusedSimpArgs false
set_option linter.unusedVariables false
variable {P : Program}
theorem zkx (w : World) (t ty e ety : TypeId) (i : TypeInfo) (ht : P.underlying t = some (.slice e)) (hi : P.info? e = some i)
 (g fo sLen sCap : Nat) (cur : Array Value) (hg : w.heap[g]? = some (.cells cur ety (0, 0)))
 (a : Addr) (m c : Nat) (news : List Value) (hl : news.length = m * i.size) (hnews : ∀ (j : Nat) u, news[j]? = some u → w.cell? (a.add j) = some u) (h1 : ∀ u ∈ news, u.oneCell' = true)
 (hroom : sLen + m ≤ sCap) (hfit : (fo + sLen) * i.size + news.length ≤ cur.size) :
 (Builtin.append_ #[t, t] ty #[.slice (some ⟨g, fo * i.size, none⟩) sLen sCap, .slice (some a) m c]).run P w =
  .ok (.slice (some ⟨g, fo * i.size, none⟩) (sLen + m) sCap) (w.setRow g (cur.toList.take ((fo + sLen) * i.size) ++ news ++ cur.toList.drop ((fo + sLen) * i.size + news.length)).toArray) := by
 have hf := run_firstCells_some (P := P) w i.size m a m c news hl hnews
 have hst := run_storeCells_at P g ((fo + sLen) * i.size) ety news 0 cur w hg (by simpa using hfit) h1
 have e : (fo + sLen) * i.size = fo * i.size + sLen * i.size := Nat.add_mul _ _ _
 rw [e] at hst ⊢
 simp only [Nat.add_zero] at hst
 simp [Builtin.append_, run_underlying ht, sizeOf, typeInfo, hi, Builtin.lenOf, hroom, hf, Addr.add_lit, hst]
def aAppG (P : Program) (st : St) (nm : Nat) (ts : List TypeId) (s x : AV) : Option (Prop × (AV × Ups) × (AV × Ups)) :=
 match ts with
 | [t, u] => match ti P t with
  | some T => match T.kind with
   | .slice e => match ti P e with
    | some E => match aNewsW st E.size x with
     | some (p, ys) => match s with
      | .arr n fo len => match st.ob n with
       | some (.win sz xs) => if sz = E.size then some (p ∧ (st.ob nm).isNone = true ∧ t = u ∧ 0 < E.size ∧ E.zero.length = E.size ∧ 0 < ys.length ∧ fo + len ≤ xs.length ∧ (len + ys.length) * E.bytes ≤ 2 ^ 47 ∧ len + ys.length < 2 ^ 62,
        (.arr nm fo (len + ys.length), [(n, .dead), (nm, .win E.size (xs.take (fo + len) ++ ys))]), (.arr nm 0 (len + ys.length), [(n, .dead), (nm, .win E.size ((xs.drop fo).take len ++ ys))])) else none
       | _ => none
      | _ => none
     | none => none
    | none => none
   | _ => none
  | none => none
 | _ => none
section
variable {C : Cx} {st : St} {a : Act} {w : World} {I : Nat → Prop} {β : Beta} {φ : Nat → List Nat}
set_option maxHeartbeats 4000000 in
theorem zxd (hC : Conc C st a w I β φ) {nm : Nat} {ts : List TypeId} {ty : TypeId} {s x v1 v2 : AV} {p y : Value} {c : Prop} {u1 u2 : Ups} (hs : Rv w I β s p) (hx : Rv w I β x y)
 (h : aAppG P st nm ts s x = some (c, (v1, u1), (v2, u2))) (hc : c) : Good P C st a w (Builtin.append_ ts.toArray ty #[p, y]) v1 u1 ∨ Good P C st a w (Builtin.append_ ts.toArray ty #[p, y]) v2 u2 := by
 unfold aAppG at h
 split at h
 ·rename_i t t'
  split at h
  ·rename_i T hT
   obtain ⟨d, i, z, hd, hi, hz, rfl⟩ := zck hT
   simp only at h
   split at h
   ·rename_i e hk
    cases d <;> simp only [tkOf, TK.slice.injEq, reduceCtorEq] at hk
    rw [hk] at hd
    split at h
    ·rename_i E hE
     obtain ⟨d', i', z', hd', hi', hz', rfl⟩ := zck hE
     simp only at h
     split at h
     ·rename_i q ys hnews
      split at h
      ·rename_i n fo len
       split at h
       ·rename_i sz xs hob
        split at h
        ·rename_i hsz
         cases h
         obtain ⟨hq, hn, rfl, hpos, hzs, hy00, hlx, h47, h62⟩ := hc
         have hn' : st.ob nm = none := by simpa using hn
         have hzs' : z'.cells.size = i'.size := by simpa using hzs
         obtain ⟨bl, hb, hle, hp⟩ := hs
         obtain ⟨bl', hb', h1, h2, h3, h4⟩ := hC.ob _ _ hob
         rw [hb] at hb'; cases hb'
         subst h1
         replace hsz : bl.sz = i'.size := hsz
         rw [h2, Nat.zero_add] at hp
         have hdead : ∀ (w' : World) (β' : Beta) (φ' : Nat → List Nat) (zs : List (List AV)), Conc C { st with ob := upd st.ob nm (some (.win bl.sz zs)) } a w' I β' φ' →
          Conc C { st with ob := upd (upd st.ob n (some .dead)) nm (some (.win bl.sz zs)) } a w' I β' (upd φ' n []) := by
          intro w' β' φ' zs hC'
          have hne : n ≠ nm := by rintro rfl; rw [hob] at hn'; cases hn'
          have hφ : ∀ m b, b ∈ upd φ' n [] m → m ≠ n ∧ b ∈ φ' m := by
           intro m b hb
           by_cases h2 : m = n
           ·subst h2; simp [zbn] at hb
           ·rw [zbj _ _ h2] at hb; exact ⟨h2, hb⟩
          have hdom : ∀ m, upd (upd st.ob n (some OB.dead)) nm (some (OB.win bl.sz zs)) m = none → m ≠ n ∧ upd st.ob nm (some (OB.win bl.sz zs)) m = none := by
           intro m ho
           by_cases h1 : m = nm
           ·subst h1; simp [zbn] at ho
           ·rw [zbj _ _ h1] at ho ⊢
            by_cases h2 : m = n
            ·subst h2; simp [zbn] at ho
            ·rw [zbj _ _ h2] at ho; exact ⟨h2, ho⟩
          refine hC'.move (fun _ => False) (Evo.refl _ w') (fun _ hf => hf.elim) (fun _ hb => hb) (fun _ hb => .inl hb) (fun _ _ hb => hb) ?_ (fun m ho => hC'.dom m (hdom m ho).2) ?_ ?_ ?_ ?_ ?_ ?_
          ·intro m o ho
           by_cases h2 : m = n
           ·subst h2
            rw [zbj _ _ hne, zbn] at ho
            cases ho
            exact .inr (by rw [zbn]; rfl)
           ·refine .inl ⟨?_, zbj _ _ h2, fun _ _ hf => hf⟩
            by_cases h1 : m = nm
            ·subst h1; simpa only [zbn] using ho
            ·rw [zbj _ _ h1, zbj _ _ h2] at ho
             show upd st.ob nm (some (OB.win bl.sz zs)) m = some o
             rw [zbj _ _ h1]; exact ho
          ·intro m ho
           rw [zbj _ _ (hdom m ho).1]; exact hC'.fdom m (hdom m ho).2
          ·intro m k hmk b hb hb'
           exact hC'.sep m k hmk b (hφ m b hb).2 (hφ k b hb').2
          ·intro m b hb; exact hC'.nimm m b (hφ m b hb).2
          ·intro m b hb; exact hC'.flt m b (hφ m b hb).2
          ·intro m cs ho hwr b hb
           obtain ⟨h2, h3⟩ := hφ m b hb
           refine hC'.wok m cs ?_ hwr b h3
           show upd st.ob nm (some (OB.win bl.sz zs)) m = some cs
           by_cases h1 : m = nm
           ·subst h1; simp only [zbn, Option.some.injEq] at ho ⊢; exact ho
           ·rw [zbj _ _ h1, zbj _ _ h2] at ho
            rw [zbj _ _ h1]; exact ho
          ·intro m s ys ho b hb
           obtain ⟨h2, h3⟩ := hφ m b hb
           refine hC'.fnew m s ys ?_ b h3
           show upd st.ob nm (some (OB.win bl.sz zs)) m = some (.flat s ys)
           by_cases h1 : m = nm
           ·subst h1; simpa only [zbn] using ho
           ·rw [zbj _ _ h1, zbj _ _ h2] at ho
            rw [zbj _ _ h1]; exact ho
         have hup : ∀ m bl', β m = some bl' → upd β nm (some bl) m = some bl' := by
          intro m bl' hm
          rw [zbj]
          ·exact hm
          ·rintro rfl; rw [hC.dom _ hn'] at hm; cases hm
         have hxl : ((xs.drop fo).take len).length = len := by simp; omega
         have hxl1 : (xs.take (fo + len)).length = fo + len := by simp; omega
         have htake : bl.cap = 0 ∨ RJe w I β bl.b bl.sz (0 + fo * bl.sz) ((xs.drop fo).take len) := h4.imp (·.1) (fun h => zd4 _ _ len (zh9 _ _ fo h.2.2))
         -- the elements that come
         have hyy : (ys = [] ∧ ∃ a' cap', y = .slice a' 0 cap') ∨ (0 < ys.length ∧ ∃ b o cap', y = .slice (some ⟨b, o, none⟩) ys.length cap' ∧ RJe w I β b i'.size o ys) := by
          rcases zgj hC hnews hq hx with h | ⟨b, o, cap', h, hr⟩
          ·exact .inl h
          ·rcases Nat.eq_zero_or_pos ys.length with h0 | h0
           ·exact .inl ⟨List.length_eq_zero_iff.1 h0, _, _, by rw [h, h0]⟩
           ·exact .inr ⟨h0, b, o, cap', h, hr⟩
         rw [← hsz]
         rcases hyy with ⟨rfl, a', cap', rfl⟩ | ⟨hy0, b, o, cap', rfl, hr⟩
         ·simp at hy00
         ·rw [← hsz] at hr
          obtain ⟨vs, hl, hcell, hone, hel⟩ := zfg _ _ hr
          have hcell' : ∀ (j : Nat) v, vs[j]? = some v → w.cell? ((⟨b, o, none⟩ : Addr).add j) = some v := fun j v hv => by rw [Addr.add_lit]; exact hcell j v hv
          by_cases hroom : fo + len + ys.length ≤ bl.cap
          ·rcases hp with rfl | ⟨h0, a0, rfl⟩
           ·rcases h4 with ⟨h4, -⟩ | ⟨hφ, ⟨arr, ety, hh, hsize⟩, hrc⟩
            ·omega
            ·have hbig : (fo + len) * bl.sz + ys.length * bl.sz ≤ bl.cap * bl.sz := by rw [← Nat.add_mul]; exact Nat.mul_le_mul_right _ hroom
             have hrun := zkx (P := P) w t ty e ety i' hd hi' bl.b fo len (bl.cap - fo) arr hh ⟨b, o, none⟩ ys.length cap' vs (by rw [hl, hsz]) hcell' hone (by omega) (by rw [← hsz, hl]; omega)
             have hlen' : (arr.toList.take ((fo + len) * i'.size)).length = (fo + len) * bl.sz := by simp; rw [hsz] at hbig hsize ⊢; omega
             have hnew := setRow_heap w bl.b arr (arr.toList.take ((fo + len) * i'.size) ++ vs ++ arr.toList.drop ((fo + len) * i'.size + vs.length)).toArray ety (0, 0) hh
             have hev : ∀ b, I b → (w.setRow bl.b (arr.toList.take ((fo + len) * i'.size) ++ vs ++ arr.toList.drop ((fo + len) * i'.size + vs.length)).toArray).heap[b]? = w.heap[b]? := fun b hb' => setRow_other w bl.b b _ (by rintro rfl; exact hC.nimm n _ (by rw [hφ]; simp) hb')
             have hspl : ∀ k, (w.setRow bl.b (arr.toList.take ((fo + len) * i'.size) ++ vs ++ arr.toList.drop ((fo + len) * i'.size + vs.length)).toArray).cell? ⟨bl.b, k, none⟩ =
              if (fo + len) * bl.sz ≤ k ∧ k < (fo + len) * bl.sz + vs.length then vs[k - (fo + len) * bl.sz]? else arr[k]? := by
              intro k
              have hfit2 : (fo + len) * i'.size + vs.length ≤ arr.toList.length := by rw [Array.length_toList (xs := arr), hl, ← hsz]; omega
              rw [zc3 hnew, List.getElem?_toArray, zd0 _ _ _ hfit2, hsz]
              simp
             have hro : RO (w.setRow bl.b (arr.toList.take ((fo + len) * i'.size) ++ vs ++ arr.toList.drop ((fo + len) * i'.size + vs.length)).toArray) I (upd β nm (some bl)) nm (.win bl.sz (xs.take (fo + len) ++ ys)) (φ n) := by
              refine ⟨bl, zbn _ _ _, rfl, h2, by simp; omega, .inr ⟨hφ, ⟨_, ety, hnew, by simp; omega⟩, ?_⟩⟩
              refine zjx _ _ _ ?_ ?_
              ·rw [zg4]
               intro i x hxi
               obtain ⟨k1, k2⟩ := zg1 _ _ _ _ (zd4 _ _ (fo + len) hrc) hxi
               refine ⟨k1, ?_⟩
               rw [zf3] at k2 ⊢
               intro j c hc
               obtain ⟨v, hv, hrv⟩ := k2 j c hc
               refine ⟨v, ?_, zfo (fun _ h => h) hev hup c v hrv⟩
               have hj : j < bl.sz := by rw [← k1]; exact (List.getElem?_eq_some_iff.1 hc).1
               have hi2 : i < fo + len := by have := (List.getElem?_eq_some_iff.1 hxi).1; omega
               have : (i + 1) * bl.sz ≤ (fo + len) * bl.sz := Nat.mul_le_mul_right _ hi2
               rw [Nat.add_mul, Nat.one_mul] at this
               rw [hspl, if_neg (by omega)]
               rwa [zc3 hh] at hv
              ·rw [zg4]
               intro i y hyi
               obtain ⟨k1, k2⟩ := hel i y hyi
               refine ⟨k1, ?_⟩
               rw [zf3]
               intro j c hc
               obtain ⟨v, hv, hrv⟩ := k2 j c hc
               have hvl := (List.getElem?_eq_some_iff.1 hv).1
               refine ⟨v, ?_, zfo (fun _ h => h) hev hup c v hrv⟩
               rw [hspl, hxl1, if_pos (by omega), ← hv]
               congr 1; omega
             have hC' := hC.renameW (zs := xs.take (fo + len) ++ ys) hob hn' hb (zdr w bl.b _ _ (by rw [hφ]; simp)) hro
             exact .inl ⟨_, _, I, _, _, (by rw [hsz]; exact hrun), ⟨bl, zbn _ _ _, by omega, .inl (by simp [h2, hsz])⟩, hC'⟩
           ·omega
          ·have hns : (∃ os : List Value, os.length = ((xs.drop fo).take len).length * bl.sz ∧ (∀ (j : Nat) v, os[j]? = some v → w.cell? ⟨bl.b, 0 + fo * bl.sz + j, none⟩ = some v) ∧
            ∀ (i : Nat) x, ((xs.drop fo).take len)[i]? = some x → x.length = bl.sz ∧ ∀ (j : Nat) c, x[j]? = some c → ∃ v, os[i * bl.sz + j]? = some v ∧ R1 w I β c v) := by
            rcases htake with h0 | h0
            ·have : (xs.drop fo).take len = [] := List.length_eq_zero_iff.1 (by omega)
             rw [this]
             exact ⟨[], by simp, by simp, by simp⟩
            ·obtain ⟨os, g1, g2, g3, g4⟩ := zfg _ _ h0
             exact ⟨os, g1, g2, g4⟩
           obtain ⟨os, hol, hoc, hoel⟩ := hns
           obtain ⟨β', φ', hC', hβ⟩ := zga (e := e) hC hn' z'.cells (hzs'.trans hsz.symm) hol hl hoel hel (grownCap w (len + ys.length) (bl.cap - fo) e) (by rw [hxl]; exact grownCap_ge w _ _ e) _ rfl
           have hC'' := hdead _ _ _ _ hC'
           have hne : n ≠ nm := by rintro rfl; rw [hob] at hn'; cases hn'
           rw [hxl] at hC'' hol
           refine .inr ⟨_, _, I, β', _, ?_, ⟨_, hβ, ?_, .inl rfl⟩, hC''⟩
           ·rcases hp with rfl | ⟨h0, a0, rfl⟩
            ·have := run_append_grow (P := P) w t ty e i' z' hd hi' hz' ⟨bl.b, fo * bl.sz, none⟩ len (bl.cap - fo) os (by rw [hol, hsz]) (fun j v hv => by rw [Addr.add_lit]; have := hoc j v hv; rwa [Nat.zero_add] at this) ⟨b, o, none⟩ ys.length cap' vs (by rw [hl, hsz]) hcell' (by omega) (by omega)
              (growslice_fits (by omega) (by omega))
             simpa using this
            ·have hl0 : len = 0 := by omega
             subst hl0
             have ho0 : os = [] := List.length_eq_zero_iff.1 (by simpa using hol)
             subst ho0
             cases a0 with
             | none =>
              have := run_append_nil (P := P) w t ty e i' z' hd hi' hz' ⟨b, o, none⟩ ys.length cap' vs (by rw [hl, hsz]) hcell' hy0 (by omega) (by have h := h47; rw [Nat.zero_add] at h; exact Nat.le_trans h (by decide))
              simpa [← h0] using this
             | some a0 =>
              have := run_append_grow (P := P) w t ty e i' z' hd hi' hz' a0 0 0 [] (by simp) (by simp) ⟨b, o, none⟩ ys.length cap' vs (by rw [hl, hsz]) hcell' (by omega) (by omega)
               (growslice_fits (by omega) (by omega))
              simpa [← h0] using this
           ·simpa using grownCap_ge w (len + ys.length) (bl.cap - fo) e
        ·cases h
       ·cases h
      ·cases h
     ·cases h
    ·cases h
   ·cases h
  ·cases h
 ·cases h
end
def appT (P : Program) (st : St) (dst : Option Nat) (cl : Call) (cs2 : List CO) (K : St → Prop) : Prop := match cl.args.toList.map (ev st) with
 | [s, x] => match aAppG P st (nmC dst) cl.argTypes.toList s x with
  | some (c, (v1, u1), (v2, u2)) => c ∧ xreg P cs2 (putC st dst v1 u1) K ∧ xreg P cs2 (putC st dst v2 u2) K
  | none => False
 | _ => False
section
variable {C : Cx}
theorem zf5 {ops : Array Oper} {Q : Exit → Act → World → Prop} {K : St → Prop} {lt : List Oper} : ∀ (l : List Oper) (cs : List CO) (st : St) (a : Act) (w : World), cosOf ops l = some cs → (∀ o ∈ l, ∀ d, o.dst = some d → d < C.nt) → xreg P cs st K → CC C st a w →
 (∀ st' a' w', K st' → CC C st' a' w' → wpList P ops Q lt a' w') → wpList P ops Q (l ++ lt) a w
 | [], cs, st, a, w, hc, _, h, hC, hQ => by cases hc; exact hQ st a w h hC
 | o :: rest, cs, st, a, w, hc, hd, h, hC, hQ => by
  have hd' : ∀ o ∈ rest, ∀ d, o.dst = some d → d < C.nt := fun o ho => hd o (by simp [ho])
  unfold cosOf at hc
  split at hc
  ·rename_i c cs' h1 h2
   cases hc
   unfold coOf at h1
   show wpList P ops Q (o :: (rest ++ lt)) a w
   unfold wpList
   obtain ⟨I, β, φ, hC⟩ := hC
   split at h1
   ·rename_i hg
    cases h1
    rw [ztb] at h
    rw [if_pos (by simp [Region.wanted, hg])]
    exact .inl (zjm (hd o (by simp)) hC h fun s a' w' hk hcc => zf5 rest cs' _ a' w' h2 hd' hk hcc hQ)
   ·rename_i j want hg
    split at h1
    ·rename_i d hj
     cases h1
     rw [ztc] at h
     have hy := zhi ops a.tmps j d hj
     unfold xG at h
     split at h
     ·rename_i b hb
      have he := hC.env d
      rw [hb] at he
      change a.tmps.getD d undef = .bool b at he
      rw [he] at hy
      by_cases hbw : b = want
      ·subst hbw
       rw [if_pos (by simp [Region.wanted, hg, hy])]
       exact .inl (zjm (hd o (by simp)) (hC.same_env hb) (h.1 rfl) fun s a' w' hk hcc => zf5 rest cs' _ a' w' h2 hd' hk hcc hQ)
      ·have hbn : b = !want := by cases b <;> cases want <;> simp_all
       rw [if_neg (by simp [Region.wanted, hg, hy, hbw])]
       subst hbn
       exact zf5 rest cs' _ _ w h2 hd' (h.2 rfl) (CC.put_undef (hd o (by simp)) (hC.same_env hb)) hQ
     ·rename_i vs hb
      have he := hC.env d
      rw [hb] at he
      change a.tmps.getD d undef = .tuple vs at he
      rw [he] at hy
      rw [if_neg (by simp [Region.wanted, hg, hy])]
      exact zf5 rest cs' _ _ w h2 hd' h.2 (CC.put_undef (hd o (by simp)) hC) hQ
     ·exact h.elim
    ·cases h1
  ·cases hc
theorem zxe {o : Oper} {cl : Call} {cs2 : List CO} {K : St → Prop} {Kx : Act → World → Prop} {Q : Exit → Act → World → Prop} {st : St} {a : Act} {w : World} (hd : ∀ d, o.dst = some d → d < C.nt) (hC : CC C st a w) (ho : o.op = .call cl) (hb : cl.callee = .builtin .append) (h : appT P st o.dst cl cs2 K)
 (hK : ∀ s a' w', xreg P cs2 s K → CC C s a' w' → Kx a' w') : o.wp P a w Kx Q := by
 obtain ⟨I, β, φ, hC⟩ := hC
 have hE : ∀ x, Rv w I β (ev st x) (a.eval x) := zfn hC.env
 obtain ⟨dst, op, type, pos, aft, gd⟩ := o
 obtain ⟨callee, args, ts⟩ := cl
 simp only at ho hb
 subst ho hb
 unfold appT at h
 simp only at h
 split at h
 ·rename_i s x hL
  split at h
  ·rename_i c v1 u1 v2 u2 hA
   obtain ⟨hc, hk1, hk2⟩ := h
   obtain ⟨y, z, hyz, rfl, rfl⟩ := zj0 hL
   have hargs : args = #[y, z] := by apply Array.ext'; simpa using hyz
   subst hargs
   have hG := zxd (ty := type) hC (hE y) (hE z) hA hc
   have good : ∀ v u, xreg P cs2 (putC st dst v u) K → Good P C st a w (Builtin.append_ ts.toList.toArray type #[a.eval y, a.eval z]) v u → Oper.wp P ⟨dst, .call ⟨.builtin .append, #[y, z], ts⟩, type, pos, aft, gd⟩ a w Kx Q := by
    intro v u hk hg
    have hg2 : GoodOp P C st a w ⟨dst, .call ⟨.builtin .append, #[y, z], ts⟩, type, pos, aft, gd⟩ v u := hg.op (by simp [execOp, resolve, invoke, builtin])
    obtain ⟨y', w', I', β', φ', hr, hv, hC'⟩ := hg2
    have hcc : CC C (putC st dst v u) (a.put dst y') w' := by
     refine ⟨I', β', φ', ?_⟩
     unfold putC
     cases dst with
     | none => exact hC'
     | some d => exact hC'.put (hd d rfl) hv
    rcases hr with hr | ⟨hr, rfl⟩
    ·unfold Oper.wp; rw [hr]; exact hK _ _ _ hk hcc
    ·unfold Oper.wp; rw [hr]; exact hK _ _ _ hk hcc
   rcases hG with hG | hG
   ·exact good v1 u1 hk1 hG
   ·exact good v2 u2 hk2 hG
  ·exact h.elim
 ·exact h.elim
theorem zmh {ops : Array Oper} : ∀ (l : List Oper) (cs1 : List CO) (c : CO) (cs2 : List CO), cosOf ops l = some (cs1 ++ c :: cs2) → ∃ l1 o l2, l = l1 ++ o :: l2 ∧ cosOf ops l1 = some cs1 ∧ coOf ops o = some c ∧ cosOf ops l2 = some cs2
 | [], cs1, c, cs2, h => by unfold cosOf at h; cases cs1 <;> simp at h
 | o :: r, [], c, cs2, h => by
  unfold cosOf at h
  split at h
  ·rename_i c' cs' h1 h2
   simp only [List.nil_append, Option.some.injEq, List.cons.injEq] at h
   exact ⟨[], o, r, rfl, rfl, h.1 ▸ h1, h.2 ▸ h2⟩
  ·cases h
 | o :: r, c0 :: cs1, c, cs2, h => by
  unfold cosOf at h
  split at h
  ·rename_i c' cs' h1 h2
   simp only [List.cons_append, Option.some.injEq, List.cons.injEq] at h
   rw [h.2] at h2
   obtain ⟨l1, o', l2, rfl, e1, e2, e3⟩ := zmh r cs1 c cs2 h2
   refine ⟨o :: l1, o', l2, rfl, ?_, e2, e3⟩
   unfold cosOf
   rw [h1, e1, h.1]
  ·cases h
theorem regA {ops : Array Oper} {Q : Exit → Act → World → Prop} {K : St → Prop} {l : List Oper} {cs1 cs2 : List CO} {dst : Option Nat} {cl : Call} {st : St} {a : Act} {w : World} (hc : cosOf ops l = some (cs1 ++ ⟨dst, .call cl, none⟩ :: cs2)) (hb : cl.callee = .builtin .append) (hd : ∀ o ∈ l, ∀ d, o.dst = some d → d < C.nt)
 (h : xreg P cs1 st fun s => appT P s dst cl cs2 K) (hC : CC C st a w) (hQ : ∀ st' a' w', K st' → CC C st' a' w' → Q .normal a' w') : wpList P ops Q l a w := by
 obtain ⟨l1, o, l2, rfl, e1, e2, e3⟩ := zmh l cs1 _ cs2 hc
 refine zf5 (lt := o :: l2) l1 cs1 st a w e1 (fun o ho => hd o (by simp [ho])) h hC fun s1 a1 w1 h1 hC1 => ?_
 unfold coOf at e2
 split at e2
 ·rename_i hg
  simp only [Option.some.injEq, CO.mk.injEq, and_true] at e2
  obtain ⟨rfl, ho⟩ := e2
  unfold wpList
  rw [if_pos (by simp [Region.wanted, hg])]
  exact .inl (zxe (hd o (by simp)) hC1 ho hb h1 fun s a' w' hk hcc => zfa l2 cs2 s a' w' e3 (fun o ho => hd o (by simp [ho])) hk hcc hQ)
 ·split at e2 <;> simp at e2
end
section
variable {nt : Nat} {fs : List Nat} {Q : AExit → St → Prop} {st : St}
theorem AW_xae {id : Nat} {l : List Oper} (cs1 : List CO) {cs2 : List CO} {dst : Option Nat} {cl : Call} (hc : cosOf l.toArray l = some (cs1 ++ ⟨dst, .call cl, none⟩ :: cs2)) (hb : cl.callee = .builtin .append) (hd : dstOk nt l.toArray = true)
 (h : ∀ K : St → Prop, (∀ s, Q .normal s → K s) → xreg P cs1 st fun s => appT P s dst cl cs2 K) : AW P nt fs (.region id l.toArray false) Q st := by
 intro C a w hn hf hC
 subst hn
 exact wp_region_lit (regA hc hb (by simpa using zfu hd) (h _ fun _ h => h) hC fun st' a' w' hq hc => ⟨st', hq, hc⟩)
end
end Go.Proofs.YtfbmhgiokfpgiaaGreat.Vs
end
section
namespace Go.Proofs.YtfbmhgiokfpgiaaGreat.Vs
set_option linter.all false
set_option linter.unusedSimpArgs false
set_option linter.unusedVariables false
def wnO (s : St) (ρ : Ren) : OB → OB → Prop
 | .win sz xs, .win sz' xs' => sz' = sz ∧ wn s ρ xs xs'
 | _, _ => False
def KpOW (s : St) (ρ : Ren) : List (Nat × OB) → Prop
 | [] => True
 | (n, o) :: r => (∃ m p, lk ρ n = some m ∧ s.ob m = some p ∧ ((p = renO ρ o ∧ plO o = true) ∨ cvO p o ∨ wnO s ρ p o)) ∧ KpOW s ρ r
theorem LeS.kw {fs : List Nat} {s : St} (ρ : Ren) (e : List (Nat × AV)) (os : List (Nat × OB)) (he : KpR s ρ e) (ho : KpOW s ρ os) (hp : (e.all fun p => pl2 p.2) = true) (h1 : (ρ.map (·.1)).Nodup) (h2 : (ρ.map (·.2)).Nodup) (h3 : ρ.map (·.1) = os.map (·.1)) (hf : ∀ n ∈ fs, lk ρ n = some n) : LeS fs s { env := lkE e, ob := lk os } := by
 refine LeS.le (ρ := ρ) ⟨?_, ?_, h1, h2, h3, h3 ▸ h1, hf⟩
 ·clear ho h3
  induction e with
  | nil => trivial
  | cons p e ih =>
   obtain ⟨t, v⟩ := p
   simp only [List.all_cons, Bool.and_eq_true] at hp
   refine ⟨?_, ih he.2 hp.2⟩
   rw [he.1]
   exact zs9 v hp.1
 ·clear he hp h3
  induction os with
  | nil => trivial
  | cons p r ih =>
   obtain ⟨n, o⟩ := p
   refine ⟨?_, ih ho.2⟩
   obtain ⟨m, q, g1, g2, g3⟩ := ho.1
   rw [g1]
   simp only
   rw [g2]
   rcases g3 with ⟨rfl, g3⟩ | g3 | g3
   ·exact zta o g3
   ·cases q <;> cases o <;> first | exact g3.elim | exact g3 | exact ⟨g3.1, .inl g3.2⟩
   ·cases q <;> cases o <;> first | exact g3.elim | exact ⟨g3.1, .inr g3.2⟩
def OB.nofl : OB → Bool
 | .flat .. => false
 | _ => true
def inlR (x : Option (Prop × List AV)) (K : AV → (Nat → Option OB) → Prop) (ob : Nat → Option OB) : Prop := match x with
 | some (p, vs) => p ∧ vs.all noTup = true ∧ K (tupA vs) ob
 | none => False
theorem zb8 (p : Prop) (vs : List AV) (K : AV → (Nat → Option OB) → Prop) (ob : Nat → Option OB) : inlR (some (p, vs)) K ob = (p ∧ vs.all noTup = true ∧ K (tupA vs) ob) := (rfl)
section
variable {P : Program} {nt : Nat} {fs : List Nat} {Q : AExit → St → Prop} {st : St} {c : Code}
theorem AW_winc (n : Nat) {sz : Nat} {xs : List (List AV)} (hn : st.ob n = some (.win sz xs)) (hne : 0 < xs.length)
 (h : ∀ c0 : Nat, xs.length ≤ c0 → AW P nt fs c Q { st with ob := upd st.ob n (some (.winc sz xs c0)) }) : AW P nt fs c Q st := by
 intro C a w hnt hfs hCC
 obtain ⟨I, β, φ, hC⟩ := id hCC
 obtain ⟨bl, b1, b2, b3, b4, b5⟩ := hC.ob _ _ hn
 rcases b5 with ⟨h0, -⟩ | ⟨b5, b6, b7⟩
 ·omega
 refine h bl.cap b4 C a w hnt hfs ⟨I, β, φ, ?_⟩
 have hdom : ∀ m, upd st.ob n (some (OB.winc sz xs bl.cap)) m = none → st.ob m = none := by
  intro m ho
  by_cases e : m = n
  ·subst e; simp [zbn] at ho
  ·rwa [zbj _ _ e] at ho
 refine hC.move (fun _ => False) (Evo.refl _ w) (fun _ hf => hf.elim) (fun _ hb => hb) (fun _ hb => .inl hb) (fun _ _ h => h) ?_ (fun m ho => hC.dom m (hdom m ho)) (fun m ho => hC.fdom m (hdom m ho)) hC.sep hC.nimm hC.flt ?_ ?_
 ·intro m o ho
  by_cases e : m = n
  ·subst e
   simp only [zbn, Option.some.injEq] at ho
   subst ho
   exact .inr ⟨bl, b1, b2, b3, b4, rfl, b5, b6, b7⟩
  ·rw [zbj _ _ e] at ho
   exact .inl ⟨ho, rfl, fun _ _ hf => hf⟩
 ·intro m o ho hwr b hb
  by_cases e : m = n
  ·subst e; exact hC.wok m _ hn rfl b hb
  ·rw [zbj _ _ e] at ho; exact hC.wok m o ho hwr b hb
 ·intro m s' ys' ho b hb
  by_cases e : m = n
  ·subst e; simp [zbn] at ho
  ·rw [zbj _ _ e] at ho; exact hC.fnew m s' ys' ho b hb
theorem LeS.cwin (n : Nat) {sz c0 : Nat} {xs : List (List AV)} (hn : st.ob n = some (.winc sz xs c0)) : LeS fs st { st with ob := upd st.ob n (some (.win sz xs)) } := by
 rintro C a w hfs ⟨I, β, φ, hC⟩
 obtain ⟨bl, b1, b2, b3, b4, b5, b6, b7, b8⟩ := hC.ob _ _ hn
 have hdom : ∀ m, upd st.ob n (some (OB.win sz xs)) m = none → st.ob m = none := by
  intro m ho
  by_cases e : m = n
  ·subst e; simp [zbn] at ho
  ·rwa [zbj _ _ e] at ho
 refine ⟨I, β, φ, hC.move (fun _ => False) (Evo.refl _ w) (fun _ hf => hf.elim) (fun _ hb => hb) (fun _ hb => .inl hb) (fun _ _ h => h) ?_ (fun m ho => hC.dom m (hdom m ho)) (fun m ho => hC.fdom m (hdom m ho)) hC.sep hC.nimm hC.flt ?_ ?_⟩
 ·intro m o ho
  by_cases e : m = n
  ·subst e
   simp only [zbn, Option.some.injEq] at ho
   subst ho
   exact .inr ⟨bl, b1, b2, b3, b4, .inr ⟨b6, b7, b8⟩⟩
  ·rw [zbj _ _ e] at ho
   exact .inl ⟨ho, rfl, fun _ _ hf => hf⟩
 ·intro m o ho hwr b hb
  by_cases e : m = n
  ·subst e; exact hC.wok m _ hn rfl b hb
  ·rw [zbj _ _ e] at ho; exact hC.wok m o ho hwr b hb
 ·intro m s' ys' ho b hb
  by_cases e : m = n
  ·subst e; simp [zbn] at ho
  ·rw [zbj _ _ e] at ho; exact hC.fnew m s' ys' ho b hb
end
end Go.Proofs.YtfbmhgiokfpgiaaGreat.Vs
end
section
namespace Go.Proofs.YtfbmhgiokfpgiaaGreat.Vs
set_option linter.all false
open Go.RowKit
set_option linter.unusedSimpArgs false
set_option linter.unusedVariables false
variable {P : Program}
def imm0 : AV → Bool
 | .g _ => true
 | .s _ => true
 | .sl .. => true
 | _ => false
def immR (xs : List (List AV)) : Bool := xs.all (·.all imm0)
theorem zlc {α : Type} (f : α → List AV) (h : ∀ x, (f x).all imm0 = true) (l : List α) : immR (l.map f) = true := by
 unfold immR
 rw [List.all_map]
 exact List.all_eq_true.2 fun x _ => h x
theorem imm0_RI {w : World} {I I' : Nat → Prop} {β : Beta} (hI : ∀ b, I b → I' b) (c : AV) (v : Value) (h : imm0 c = true) (hr : Rv1 w I β c v) (h1 : v.oneCell' = true) : RI w I' c v := by
 cases c with
 | g x => have hr : v = x := hr; rw [RI]; subst hr; exact ⟨rfl, h1⟩
 | s x => have hr : v = .string ⟨x.toArray⟩ := hr; rw [RI]; exact hr
 | sl sz xs => have hr : RI w I (.sl sz xs) v := hr; exact zd3 hI (fun _ _ => rfl) _ _ hr
 | _ => simp [imm0] at h
theorem immc_RI {w : World} {I I' : Nat → Prop} {β : Beta} (hI : ∀ b, I b → I' b) {b : Nat} : ∀ (cs : List AV) (o : Nat), cs.all imm0 = true → RJc w I β b o cs → RIc w I' b o cs
 | [], o, _, _ => by simp [RIc]
 | c :: cs, o, h, hr => by
  rw [List.all_cons, Bool.and_eq_true] at h
  obtain ⟨⟨v, g1, g2, g3⟩, g4⟩ := hr
  rw [RIc]
  exact ⟨⟨v, g1, imm0_RI hI c v h.1 g2 g3⟩, immc_RI hI cs (o + 1) h.2 g4⟩
theorem imme_RI {w : World} {I I' : Nat → Prop} {β : Beta} (hI : ∀ b, I b → I' b) {b sz : Nat} : ∀ (xs : List (List AV)) (o : Nat), immR xs = true → RJe w I β b sz o xs → RIe w I' b sz o xs
 | [], o, _, _ => by simp [RIe]
 | x :: xs, o, h, hr => by
  unfold immR at h
  rw [List.all_cons, Bool.and_eq_true] at h
  obtain ⟨g1, g2, g3⟩ := hr
  rw [RIe]
  exact ⟨g1, immc_RI hI x o h.1 g2, imme_RI hI xs (o + sz) h.2 g3⟩
def pcE (st : St) (v r : AV) : Prop := match v, r with
 | .arr n off len, .sl sz ys => ∃ xs, ((st.ob n = some (.win sz xs) ∧ immR xs = true) ∨ st.ob n = some (.flat sz xs)) ∧ off + len ≤ xs.length ∧ ys = (xs.drop off).take len
 | .g (.slice none 0 0), .sl _ ys => ys = []
 | .g a, .g b => b = a
 | _, _ => False
theorem zbm (st : St) (n off len sz : Nat) (ys : List (List AV)) : pcE st (.arr n off len) (.sl sz ys) = ∃ xs, ((st.ob n = some (.win sz xs) ∧ immR xs = true) ∨ st.ob n = some (.flat sz xs)) ∧ off + len ≤ xs.length ∧ ys = (xs.drop off).take len := (rfl)
theorem zbw (st : St) (sz : Nat) (ys : List (List AV)) : pcE st (.g (.slice none 0 0)) (.sl sz ys) = (ys = []) := (rfl)
def pcX (P : Program) (rs : List ResultVar) (r : AV) (s : St) : Prop := ∃ p v, resAll P s rs = some (p, [v]) ∧ p ∧ pcE s v r
def pcQ (P : Program) (rs : List ResultVar) (r : AV) : AExit → St → Prop
 | .normal, s => pcX P rs r s
 | .ret, s => pcX P rs r s
 | _, _ => False
theorem zdz {f : FuncId} {fn : Func} {c : Code} {args : List AV} {r : AV}
 (hf : P.funcs[f]? = some fn) (hname : (fn.name == "runtime.NumGoroutine") = false) (hb : fn.body = some c) (hnt : args.length ≤ fn.ntmps)
 (h : AW P fn.ntmps (formsX 0) c (pcQ P fn.results.toList r) (stX args [])) : PCall P f args r := by
 refine ⟨⟨fn, hf, hname, by rw [hb]; rfl⟩, ?_⟩
 intro w I β vs hI hargs _ hn _ _ _
 have hβ : ∀ n, β n = none := fun n => hn n (zvx n)
 have hvl : vs.length = args.length := by
  have : ∀ (l : List AV) (ys : List Value), Rv2s w I β l ys → ys.length = l.length := by
   intro l
   induction l with
   | nil => rintro _ rfl; rfl
   | cons c l ih => rintro _ ⟨y, ys, rfl, -, h2⟩; simp [ih ys h2]
  exact this _ _ hargs
 have hC0 := zvw (wos := []) (χ := fun _ => []) (nt := fn.ntmps) (vs := vs) (by omega) hI hargs rfl (fun n _ => ⟨hβ n, rfl⟩) (fun n o ho => by rw [zma] at ho; cases ho) (by simp) (by simp)
 refine calls_of_wp hf hb (wp_mono (h _ _ w rfl (fun n hne => (hne (hβ n)).elim) ⟨_, _, _, hC0⟩) ?_)
 intro e a w' hq
 have key : (∃ s, (∃ p v, resAll P s fn.results.toList = some (p, [v]) ∧ p ∧ pcE s v r) ∧ CC ⟨w, I, fun b => ∃ n : Nat, b ∈ ([] : List Nat), fun _ => False, β, fn.ntmps⟩ s a w') →
  a.defers = [] ∧ ∃ v, (results fn a.tmps).run P w' = .ok v w' ∧ ∃ (v' : Value) (I' : Nat → Prop), Ending.returned v = .returned v' ∧ Evo (fun b => ∃ i bl, i < ([] : List (List AV)).length ∧ β (8 + i) = some bl ∧ bl.b = b) w w' ∧ (∀ b, I b → I' b) ∧ (∀ b, I' b → I b ∨ (w.heap.size ≤ b ∧ b < w'.heap.size)) ∧
   Rv w' I' (fun _ => none) r v' ∧ ([] : List (List AV)).length = ([] : List (List AV)).length ∧ ∀ i cs, ([] : List (List AV))[i]? = some cs → ∃ bl, β (8 + i) = some bl ∧ OwnW w' bl.b bl.o cs.length ∧ Rcs w' I' (fun _ => none) bl.b bl.o cs := by
  rintro ⟨s, ⟨p, av, hres, hp, hE⟩, I1, β1, φ1, hC1⟩
  obtain ⟨ys, hyl, hrun, hget⟩ := zgm hC1 _ _ _ hres hp
  obtain ⟨y, hy, hry⟩ := hget 0 av rfl
  have hl1 : ys.length = 1 := by simpa using hyl
  obtain ⟨y', rfl⟩ := List.length_eq_one_iff.1 hl1
  simp only [List.getElem?_cons_zero, Option.some.injEq] at hy
  subst hy
  refine ⟨hC1.dfr, y', ?_, y', fun b => I1 b ∨ ∃ n, b ∈ φ1 n, rfl, hC1.evo.mono (by rintro b - ⟨n, hb⟩; simp at hb), fun b hb => .inl (hC1.imm0 b hb), ?_, ?_, rfl, by simp⟩
  ·rw [zhj, Sem.run_bind, Array.mapM_eq_mapM_toList, Sem.run_map', hrun]
   simp only [Result.andThen_ok, Sem.run_pure]
   rfl
  ·rintro b (hb | ⟨n, hb⟩)
   ·rcases hC1.immNew b hb with h1 | h1
    ·exact .inl h1
    ·exact .inr ⟨h1, hC1.immLt b hb⟩
   ·obtain ⟨g1, g2 | g2 | g2⟩ := hC1.flt n b hb
    ·obtain ⟨-, g2⟩ := g2; simp at g2
    ·exact g2.elim
    ·exact .inr ⟨g2, g1⟩
  ·unfold pcE at hE
   split at hE
   ·rename_i n off len sz zs
    obtain ⟨xs, ho, hol, rfl⟩ := hE
    obtain ⟨bl, b1, b2, hx⟩ := hry
    have key2 : ∃ bl', β1 n = some bl' ∧ bl'.sz = sz ∧ bl'.o = 0 ∧ xs.length ≤ bl'.cap ∧ (bl'.cap = 0 ∨ ((I1 bl'.b ∨ ∃ n, bl'.b ∈ φ1 n) ∧ RIe w' (fun b => I1 b ∨ ∃ n, b ∈ φ1 n) bl'.b sz 0 xs)) := by
     rcases ho with ⟨ho, him⟩ | ho
     ·obtain ⟨bl', k1, k2, k3, k4, k5⟩ := hC1.ob n _ ho
      refine ⟨bl', k1, k2, k3, k4, k5.imp (·.1) ?_⟩
      rintro ⟨k6, k7, k8⟩
      exact ⟨.inr ⟨n, by rw [k6]; simp⟩, imme_RI (fun _ h => .inl h) _ _ him k8⟩
     ·obtain ⟨bl', k1, k2, k3, k4, k5⟩ := hC1.ob n _ ho
      refine ⟨bl', k1, k2, k3, k4, k5.imp (·.1) ?_⟩
      rintro ⟨k6, k7, k8⟩
      exact ⟨.inr ⟨n, by rw [k6]; simp⟩, zjv (fun _ h => .inl h) (fun _ _ => rfl) _ rfl _ _ _ k8⟩
    obtain ⟨bl', k1, k2, k3, k4, k5⟩ := key2
    rw [b1] at k1; cases k1
    show RI w' _ (.sl sz _) y'
    rw [RI]
    have hzl : ((xs.drop off).take len).length = len := by simp; omega
    rcases hx with rfl | ⟨hcap, aa, rfl⟩
    ·refine ⟨_, _, by rw [hzl], by rw [hzl]; omega, ?_⟩
     rcases k5 with k5 | ⟨k5, k6⟩
     ·refine .inl (List.eq_nil_of_length_eq_zero ?_); rw [hzl]; omega
     ·refine .inr ⟨bl.b, bl.o + off * bl.sz, rfl, k5, ?_⟩
      rw [k3, k2]
      exact zff _ _ _ (zgs _ _ _ k6)
    ·have h0 : len = 0 := by omega
     subst h0
     exact ⟨aa, 0, by simp, by simp, .inl (by simp)⟩
   ·subst hE
    have hry : y' = .slice none 0 0 := hry
    show RI w' _ (.sl _ []) y'
    rw [RI]
    exact ⟨none, 0, hry, by simp, .inl rfl⟩
   ·subst hE; exact hry
   ·exact hE.elim
 cases e with
 | normal => exact key hq
 | ret => exact key hq
 | exit i => obtain ⟨s, h1, h2⟩ := hq; exact h1.elim
 | _ => exact hq.elim
def ObOk (ob : Nat → Option OB) : Prop := (∀ n s xs, ob n ≠ some (.flat s xs)) ∧ ∃ fs : List Nat, ∀ n, ob n ≠ none → n ∈ fs
theorem zvz {ob : Nat → Option OB} {n : Nat} {o : OB} (h : ObOk ob) (ho : o.nofl = true) : ObOk (upd ob n (some o)) := by
 obtain ⟨h1, fs, h2⟩ := h
 refine ⟨fun m s xs e => ?_, n :: fs, fun m hm => ?_⟩
 ·by_cases hmn : m = n
  ·subst hmn; rw [zbn] at e; cases e; simp [OB.nofl] at ho
  ·rw [zbj _ _ hmn] at e; exact h1 m s xs e
 ·by_cases hmn : m = n
  ·subst hmn; simp
  ·rw [zbj _ _ hmn] at hm; exact List.mem_cons_of_mem _ (h2 m hm)
theorem zmi {os : List (Nat × OB)} (h : os.all (fun p => p.2.nofl) = true) : ObOk (lk os) := by
 refine ⟨fun n s xs he => ?_, os.map (·.1), fun n hn => ?_⟩
 ·have := List.all_eq_true.1 h _ (zne he)
  simp [OB.nofl] at this
 ·cases hl : lk os n with
  | none => exact (hn hl).elim
  | some o => exact List.mem_map.2 ⟨_, zne hl, rfl⟩
def inlX (P : Program) (rs : List ResultVar) (K : AV → (Nat → Option OB) → Prop) (s : St) : Prop := ∃ p vs, resAll P s rs = some (p, vs) ∧ p ∧ vs.all noTup = true ∧ K (tupA vs) s.ob
def inlQ2 (P : Program) (rs : List ResultVar) (K : AV → (Nat → Option OB) → Prop) : AExit → St → Prop
 | .normal, s => inlX P rs K s
 | .ret, s => inlX P rs K s
 | _, _ => False
theorem zmj {f : FuncId} {fn : Func} {c : Code} {ob : Nat → Option OB} {actual : List AV} {K : AV → (Nat → Option OB) → Prop} (hf : P.funcs[f]? = some fn) (hname : (fn.name == "runtime.NumGoroutine") = false) (hb : fn.body = some c) (hnt : actual.length ≤ fn.ntmps) (hat : actual.all noTup = true) (hob : ObOk ob)
 (h : ∀ fs, AW P fn.ntmps fs c (inlQ2 P fn.results.toList K) { env := fun n => actual.getD n .undef, ob := ob }) : ∃ fs, INL P f fs ob actual K := by
 obtain ⟨h1, fs, h2⟩ := hob
 exact ⟨fs, fn, c, hf, hname, hb, hnt, hat, h1, h2, zsp (h fs) fun e s hq => by cases e <;> exact hq⟩
theorem zky {rest : List CO} {K : St → Prop} {st : St} {dst : Option Nat} {f : FuncId} {l : List AV} {Po : AV → (Nat → Option OB) → Prop} (hI : ∃ fs, INL P f fs st.ob l Po) (hk : ∀ v ob, Po v ob → xreg P rest (putC { st with ob := ob } dst v []) K) : XKd P rest K st dst f l := by
 obtain ⟨fs, hI⟩ := hI
 exact XKd_i hI hk
def pcR (x : Option (Prop × List AV)) (st : St) (r : AV) : Prop := match x with
 | some (p, [v]) => p ∧ pcE st v r
 | _ => False
theorem zbk (p : Prop) (v : AV) (st : St) (r : AV) : pcR (some (p, [v])) st r = (p ∧ pcE st v r) := (rfl)
theorem zmk {P : Program} {rs : List ResultVar} {K : AV → (Nat → Option OB) → Prop} {st : St} (h : inlR (resAll P st rs) K st.ob) : inlX P rs K st := by
 unfold inlR at h
 split at h
 ·rename_i p vs hr
  exact ⟨p, vs, hr, h.1, h.2.1, h.2.2⟩
 ·exact h.elim
theorem zh1 {P : Program} {rs : List ResultVar} {r : AV} {st : St} (h : pcR (resAll P st rs) st r) : pcX P rs r st := by
 unfold pcR at h
 split at h
 ·rename_i p v hr
  exact ⟨p, v, hr, h.1, h.2⟩
 ·exact h.elim
def KQ (r : AV) (o : Nat → Option OB) (v : AV) (ob' : Nat → Option OB) : Prop := r = v ∧ o = ob'
theorem zc1 (r : AV) (o : Nat → Option OB) (v : AV) (ob' : Nat → Option OB) : KQ r o v ob' = (r = v ∧ o = ob') := (rfl)
theorem le1_imm {s : St} {ρ : Ren} {c : AV} (h : imm0 c = true) : le1 s ρ c c := by
 cases c <;> first | (simp [imm0] at h; done) | exact rfl | exact ⟨rfl, rfl⟩
theorem zv0 {s : St} {ρ : Ren} : ∀ (cs : List AV), cs.all imm0 = true → le1s s ρ cs cs
 | [], _ => rfl
 | c :: cs, h => by
  simp only [List.all_cons, Bool.and_eq_true] at h
  exact ⟨le1_imm h.1, zv0 cs h.2⟩
theorem zda {s : St} {ρ : Ren} {xs : List (List AV)} (h : immR xs = true) : wn s ρ xs xs :=
 ⟨rfl, fun i x' hx => ⟨x', hx, zv0 x' (List.all_eq_true.1 h x' (List.mem_of_getElem? hx))⟩⟩
theorem wn_imm2 {s : St} {ρ : Ren} {xs ys : List (List AV)} (h : immR xs = true) (e : ys = xs) : wn s ρ xs ys := by subst e; exact zda h
theorem zcq (a b : List (List AV)) : immR (a ++ b) = (immR a && immR b) := by simp [immR]
theorem zcm (x : List AV) (xs : List (List AV)) : immR (x :: xs) = (x.all imm0 && immR xs) := by simp [immR]
theorem zcr : immR [] = true := (rfl)
theorem zc2 (s : Nat) (xs : List (List AV)) : imm0 (.sl s xs) = true := (rfl)
end Go.Proofs.YtfbmhgiokfpgiaaGreat.Vs
end
section
open Go Go.Proofs Go.Sort
namespace Go.Proofs.YtfbmhgiokfpgiaaGreat.Vs
set_option linter.all false
set_option linter.unusedSimpArgs false
set_option linter.unusedVariables false
theorem zv1 {W w' : World} (h : Evo (fun _ => False) W w') : ∃ q os', w' = grow (W.drewN q) os' := by
 obtain ⟨h1, h2, h3, h4, h5, h6⟩ := h
 refine ⟨w'.drawn - W.drawn, w'.heap.extract W.heap.size w'.heap.size, ?_⟩
 obtain ⟨heap, tape, drawn, os, out⟩ := w'
 simp only at h1 h2 h3 h4 h5 h6
 subst h1 h2 h3
 simp only [grow, World.drewN, World.mk.injEq, and_true, true_and]
 refine ⟨?_, by omega⟩
 refine Array.ext (by simp; omega) fun i hi1 hi2 => ?_
 by_cases e : i < W.heap.size
 ·rw [Array.getElem_append_left e]
  have := h5 i e (fun h => h)
  rw [Array.getElem?_eq_getElem hi1, Array.getElem?_eq_getElem e] at this
  exact Option.some.inj this
 ·rw [Array.getElem_append_right (by omega)]
  simp only [Array.getElem_extract]
  congr 1
  omega
section
variable {α : Type} [Inhabited α]
def gCells (enc : α → List Value) (x : α) : List AV := (enc x).map AV.g
theorem RWc_g {w : World} {b : Nat} : ∀ (vs : List Value) (o : Nat) (F : List Nat), (∀ v ∈ vs, v.oneCell' = true) → (RWc w b o (vs.map AV.g) F ↔ F = [] ∧ ∀ c, (h : c < vs.length) → w.cell? ⟨b, o + c, none⟩ = some vs[c])
 | [], o, F, _ => by simp [RWc]
 | v :: vs, o, F, h1 => by
  have ih := fun F => RWc_g (w := w) (b := b) vs (o + 1) F fun v hv => h1 v (List.mem_cons_of_mem _ hv)
  simp only [List.map_cons, RWc, RW, ih]
  constructor
  ·rintro ⟨F1, F2, rfl, ⟨x, hx, rfl, -, rfl⟩, rfl, h2⟩
   refine ⟨rfl, fun j hj => ?_⟩
   cases j with
   | zero => simpa using hx
   | succ j =>
    have := h2 j (by simpa using hj)
    rw [show o + (j + 1) = o + 1 + j by omega]
    simpa using this
  ·rintro ⟨rfl, h⟩
   refine ⟨[], [], rfl, ⟨v, by have := h 0 (by simp); rw [List.getElem_cons_zero] at this; simpa using this, rfl, h1 v List.mem_cons_self, rfl⟩, rfl, fun j hj => ?_⟩
   have := h (j + 1) (by simpa using hj)
   rw [show o + (j + 1) = o + 1 + j by omega] at this
   simpa using this
theorem RWe_g {w : World} {b k : Nat} {enc : α → List Value} (hk : ∀ x, (enc x).length = k) (h1 : ∀ x, ∀ v ∈ enc x, v.oneCell' = true) : ∀ (l : List α) (o : Nat) (F : List Nat), RWe w b k o (l.map (gCells enc)) F ↔ F = [] ∧ ∀ j, (hj : j < l.length) → ∀ c, (hc : c < k) → w.cell? ⟨b, o + (j * k + c), none⟩ = some ((enc l[j])[c]'(by rw [hk]; exact hc))
 | [], o, F => by simp [RWe]
 | x :: l, o, F => by
  have ih := fun F => RWe_g (w := w) (b := b) hk h1 l (o + k) F
  simp only [List.map_cons, RWe, ih, gCells, RWc_g _ _ _ (h1 x), List.length_map, hk, true_and]
  constructor
  ·rintro ⟨F1, F2, rfl, ⟨rfl, h2⟩, rfl, h3⟩
   refine ⟨rfl, fun j hj c hc => ?_⟩
   cases j with
   | zero => simpa using h2 c (by rw [hk]; exact hc)
   | succ j =>
    have := h3 j (by simpa using hj) c hc
    rw [show o + ((j + 1) * k + c) = o + k + (j * k + c) by rw [Nat.add_mul]; omega]
    simpa using this
  ·rintro ⟨rfl, h⟩
   refine ⟨[], [], rfl, ⟨rfl, fun c hc => ?_⟩, rfl, fun j hj c hc => ?_⟩
   ·have := h 0 (by simp) c hc
    simpa using this
   ·have := h (j + 1) (by simpa using hj) c hc
    rw [show o + ((j + 1) * k + c) = o + k + (j * k + c) by rw [Nat.add_mul]; omega] at this
    simpa using this
theorem zru {w : World} {b k : Nat} {enc : α → List Value} (hk : ∀ x, (enc x).length = k) {l : List α} (h : ∀ j, (hj : j < l.length) → ∀ c, (hc : c < k) → w.cell? ⟨b, 0 + (j * k + c), none⟩ = some ((enc l[j])[c]'(by rw [hk]; exact hc))) (hf : ∀ o, w.frozen? ⟨b, o, none⟩ = false) : HoldsK enc k w b 0 l.toArray := by
 intro t ht
 rw [size_flatK] at ht
 refine ⟨?_, hf _⟩
 have ht' : t < l.length * k := by simpa using ht
 have hk0 : 0 < k := Nat.pos_of_ne_zero fun e => by subst e; simp at ht'
 have hj : t / k < l.length := Nat.div_lt_of_lt_mul (by rw [Nat.mul_comm]; exact ht')
 have hc : t % k < k := Nat.mod_lt _ hk0
 rw [get_flatK _ _ _ _ (by simpa using ht')]
 have := h (t / k) hj (t % k) hc
 have e : t / k * k + t % k = t := by rw [Nat.mul_comm]; exact Nat.div_add_mod t k
 rw [e] at this
 rw [this]
 have hj2 : t / k < l.toArray.size := by simpa using hj
 have e2 : l.toArray[t / k]! = l[t / k] := by rw [getElem!_pos l.toArray (t / k) hj2]; simp
 show some _ = some (id _)
 have hc2 : t % k < (enc l[t / k]).length := by rw [hk]; exact hc
 rw [e2, getElem!_pos (enc l[t / k]) (t % k) hc2]
 rfl
theorem zxf {P : Program} {g : FuncId} {k : Nat} {enc : α → List Value} {cf : α → α → Int} (hcmp : ∀ x y, PCall P g [.agg (gCells enc x), .agg (gCells enc y)] (.g (.int .i64 (cf x y)))) (blk off size : Nat) (w : World) : CmpLays P g #[] enc k cf blk off size w := by
 intro m os dk hsz x y
 obtain ⟨-, hG⟩ := hcmp x y
 have hr : ∀ (W : World) (z : α), Rv2 W (fun _ => False) (fun _ => none) (.agg (gCells enc z)) (.agg (enc z).toArray) := fun W z => by
  refine ⟨enc z, rfl, ?_⟩
  unfold gCells
  induction enc z with
  | nil => rfl
  | cons v vs ih => exact ⟨v, vs, rfl, rfl, ih⟩
 have := hG (sortWorldK enc k w blk off m dk os) (fun _ => False) (fun _ => none) [.agg (enc x).toArray, .agg (enc y).toArray] (by simp) ⟨_, _, rfl, hr _ x, _, _, rfl, hr _ y, rfl⟩ (by simp) (by simp) (by simp) (by simp) (by simp)
 refine Calls.mono this ?_
 rintro e w' ⟨v, I', rfl, hE, -, -, hv, -⟩
 have hv' : v = .int .i64 (cf x y) := hv
 subst hv'
 exact ⟨rfl, zv1 (hE.mono fun b _ h => by obtain ⟨i, bl, hi, -⟩ := h; simp at hi)⟩
theorem ztm {P : Program} {g : FuncId} {k : Nat} {enc : α → List Value} {cf : α → α → Int} {cs : List AV} (hcs : cs.all plain1 = true) (hcmp : ∀ x y, GCall P g [.agg (gCells enc x), .agg (gCells enc y), .ptr 0 0] [cs] [] (.g (.int .i64 (cf x y))) []) (blk off size : Nat) (w : World) (I : Nat → Prop) (bl : Bl) (hI : ∀ b, I b → b < w.heap.size ∧ b ≠ blk) (hb : ¬ I bl.b) (hbs : bl.b < w.heap.size) (hne : bl.b ≠ blk) (hblk : blk < w.heap.size) (hc : Rcs w I (fun _ => none) bl.b bl.o cs) : CmpLays P g #[.pointer (some ⟨bl.b, bl.o + 0, none⟩)] enc k cf blk off size w := by
 intro m os dk hsz x y
 obtain ⟨-, hG⟩ := hcmp x y
 have hheap : ∀ b, b < w.heap.size → b ≠ blk → (sortWorldK enc k w blk off m dk os).heap[b]? = w.heap[b]? := by
  intro b hb hn
  unfold sortWorldK
  rw [heap_grow_old _ _ (by simpa [putRowK, putRow, mapBlock, Sort.ahead] using hb)]
  simp [putRowK, putRow, mapBlock, Sort.ahead, Array.getElem?_modify, hn.symm]
 have hsize : w.heap.size ≤ (sortWorldK enc k w blk off m dk os).heap.size := size_sortWorldK_c enc k w blk off m dk os
 generalize hW : sortWorldK enc k w blk off m dk os = W at *
 have hr : ∀ (z : α) (β : Beta), Rv2 W I β (.agg (gCells enc z)) (.agg (enc z).toArray) := fun z β => by
  refine ⟨enc z, rfl, ?_⟩
  unfold gCells
  induction enc z with
  | nil => rfl
  | cons v vs ih => exact ⟨v, vs, rfl, rfl, ih⟩
 have hRcs : ∀ (cs : List AV) (o : Nat) (β : Beta), cs.all plain1 = true → Rcs w I (fun _ => none) bl.b o cs → Rcs W I β bl.b o cs := by
  intro cs
  induction cs with
  | nil => intro o β _ _; trivial
  | cons c cs ih =>
   intro o β hp h
   simp only [List.all_cons, Bool.and_eq_true] at hp
   obtain ⟨⟨v, hv, h1⟩, h2⟩ := h
   refine ⟨⟨v, ?_, ?_⟩, ih (o + 1) β hp.2 h2⟩
   ·rw [← hv]
    simp [World.cell?, hheap bl.b hbs hne]
   ·have h3 : Rv1 W I (fun _ => none) c v := zdc (fun _ h => h) (fun b hb => hheap b (hI b hb).1 (hI b hb).2) (fun n bl h => by cases h) c v h1
    cases c <;> first | exact h3 | simp [plain1] at hp
 let βc : Beta := fun n => if n = 0 then some bl else none
 have := hG W I βc [.agg (enc x).toArray, .agg (enc y).toArray, .pointer (some ⟨bl.b, bl.o + 0, none⟩)] (fun b h => Nat.lt_of_lt_of_le (hI b h).1 hsize) ⟨_, _, rfl, hr x _, _, _, rfl, hr y _, _, _, rfl, ⟨bl, rfl, rfl⟩, rfl⟩ (by simp)
  (fun n hn => by show (if n = 0 then some bl else none) = none; rw [if_neg (fun e => hn (.inl (by subst e; simp)))])
  (fun i cs' h => by
   cases i with
   | zero =>
    simp only [List.getElem?_cons_zero, Option.some.injEq] at h
    subst h
    exact ⟨bl, rfl, hb, Nat.lt_of_lt_of_le hbs hsize, hRcs _ _ _ hcs hc⟩
   | succ i => simp at h)
  (by simp)
  (fun n m' b1 b2 hnm h1 h2 => by
   have e1 : n = 0 := by
    refine Classical.byContradiction fun e => ?_
    have : βc n = none := if_neg e
    rw [this] at h1; cases h1
   have e2 : m' = 0 := by
    refine Classical.byContradiction fun e => ?_
    have : βc m' = none := if_neg e
    rw [this] at h2; cases h2
   exact absurd (e1.trans e2.symm) hnm)
 refine Calls.mono this ?_
 rintro e w' ⟨v, I', rfl, hE, -, -, hv, -⟩
 have hv' : v = .int .i64 (cf x y) := hv
 subst hv'
 exact ⟨rfl, zv1 (hE.mono fun b _ h => by obtain ⟨i, bl, hi, -⟩ := h; simp at hi)⟩
def srt (cf : α → α → Int) (l : List α) : List α := l.mergeSort fun x y => !(ltOf cf) y x
theorem zml (cf : α → α → Int) (l : List α) : (srt cf l).length = l.length := List.length_mergeSort _
theorem zkb (enc : α → List Value) (k : Nat) (w : World) (blk n : Nat) (d : Array α) (os : Array Obj) (b : Nat) (hb : b < w.heap.size) (hn : b ≠ blk) : (sortWorldK enc k w blk 0 n d os).heap[b]? = w.heap[b]? := by
 unfold sortWorldK
 rw [heap_grow_old _ _ (by simpa [putRowK, putRow, mapBlock, Sort.ahead] using hb)]
 simp [putRowK, putRow, mapBlock, Sort.ahead, Array.getElem?_modify, hn.symm]
theorem zmm {enc : α → List Value} {k : Nat} {w : World} {blk n : Nat} {d : Array α} {os : Array Obj} {arr : Array Value} {ty : TypeId} (hb : blk < w.heap.size) (h : w.heap[blk]? = some (.cells arr ty (0, 0))) : (sortWorldK enc k w blk 0 n d os).heap[blk]? = some (.cells (putCells id 0 (flatK enc k d) arr) ty (0, 0)) := by
 unfold sortWorldK
 rw [heap_grow_old _ _ (by simpa [putRowK, putRow, mapBlock, Sort.ahead] using hb)]
 simp [putRowK, putRow, mapBlock, Sort.ahead, Array.getElem?_modify, h, onCells]
theorem zjn (enc : α → List Value) (k : Nat) (w : World) (blk n : Nat) (d : Array α) (os : Array Obj) : Evo (fun b => b = blk) w (sortWorldK enc k w blk 0 n d os) := by
 refine ⟨rfl, rfl, rfl, ?_, fun b hb hn => zkb enc k w blk n d os b hb hn, ?_⟩
 ·simp [sortWorldK, putRowK, putRow, mapBlock, Sort.ahead, grow]
 ·simp [sortWorldK, putRowK, putRow, mapBlock, Sort.ahead, grow]
theorem zmn {enc : α → List Value} {k : Nat} (hk : ∀ x, (enc x).length = k) {w : World} {blk n : Nat} {l : List α} {os : Array Obj} {arr : Array Value} {ty : TypeId} (hb : blk < w.heap.size) (h : w.heap[blk]? = some (.cells arr ty (0, 0))) (hs : l.length * k ≤ arr.size) (j : Nat) (hj : j < l.length) (c : Nat) (hc : c < k) : (sortWorldK enc k w blk 0 n l.toArray os).cell? ⟨blk, 0 + (j * k + c), none⟩ = some ((enc l[j])[c]'(by rw [hk]; exact hc)) := by
 have h2 := zmm (enc := enc) (k := k) (n := n) (d := l.toArray) (os := os) hb h
 have hlt : j * k + c < l.length * k := by
  have : (j + 1) * k ≤ l.length * k := Nat.mul_le_mul_right _ (by omega)
  rw [Nat.add_mul] at this
  omega
 have hd : (j * k + c) / k = j := by
  rw [Nat.mul_comm, Nat.mul_add_div (by omega), Nat.div_eq_of_lt hc, Nat.add_zero]
 have hm : (j * k + c) % k = c := by
  rw [Nat.mul_comm, Nat.mul_add_mod, Nat.mod_eq_of_lt hc]
 have hg := get_flatK enc k l.toArray (j * k + c) (by simpa using hlt)
 rw [hd, hm] at hg
 have hj2 : j < l.toArray.size := by simpa using hj
 have e2 : l.toArray[j]! = l[j] := by rw [getElem!_pos l.toArray j hj2]; simp
 have hc2 : c < (enc l[j]).length := by rw [hk]; exact hc
 rw [e2, getElem!_pos (enc l[j]) c hc2] at hg
 have hlt2 : j * k + c < arr.size := by omega
 simp only [World.cell?, h2, Nat.zero_add]
 rw [getElem!_pos _ _ (by simpa using hlt)] at hg
 simp [putCells, hlt2, hlt, hg]
theorem sortFX_of {P : Program} {f g : FuncId} {k : Nat} {enc : α → List Value} (hk : ∀ x, (enc x).length = k) (h1 : ∀ x, ∀ v ∈ enc x, v.oneCell' = true) {cf : α → α → Int} (hf : ∃ fn, P.funcs[f]? = some fn ∧ (fn.name == "runtime.NumGoroutine") = false ∧ fn.body.isNone = false)
 (hc : ∀ (cb : Array Value) (blk cap : Nat) (d : Array α) (w : World), CmpLays P g cb enc k cf blk 0 d.size w → HoldsK enc k w blk 0 d → blk < w.heap.size → d.size < 4611686018427387904 → Calls P f #[.slice (some ⟨blk, 0, none⟩) d.size cap, .func (.func g) #[] cb] w fun e w' => e = .returned (.tuple #[]) ∧ ∃ n os, w' = sortWorldK enc k w blk 0 n (d.toList.mergeSort fun x y => !(ltOf cf) y x).toArray os)
 (h0 : ∀ (p : Option Addr) (cap : Nat) (fv : Value) (w : World), Calls P f #[.slice p 0 cap, fv] w fun e w' => e = .returned (.tuple #[]) ∧ w' = w)
 (hcmp : ∀ x y, PCall P g [.agg (gCells enc x), .agg (gCells enc y)] (.g (.int .i64 (cf x y)))) (l : List α) (hl : l.length ≤ 1048576) :
 XCall P f [.arr 8 0 l.length, .fn g [] []] [.own k (l.map (gCells enc))] (.tup []) [.own k ((srt cf l).map (gCells enc))] [] := by
 refine ⟨hf, rfl, by simp, by simp [OB.xk], ?_⟩
 intro w I β χ vs hI hargs hn ho hsep hχ
 have h8 : ∀ xs : List (List AV), postOb [.own k xs] [] 8 = some (.own k xs) := fun xs => by simp [postOb]
 have hother : ∀ (xs ys : List (List AV)) n, n ≠ 8 → postOb [.own k xs] [] n = postOb [.own k ys] [] n := by
  intro xs ys n hne
  unfold postOb
  split
  ·split
   ·rfl
   ·rw [List.getElem?_eq_none (by simp; omega), List.getElem?_eq_none (by simp; omega)]
  ·simp
 obtain ⟨bl, hb, hsz, hbo, hle, hnd, hF⟩ := ho 8 _ (h8 _)
 obtain ⟨v, vs', rfl, ha, fv, vs'', rfl, hfv, rfl⟩ := hargs
 obtain ⟨bl', hb', hle', hv⟩ := ha
 rw [hb] at hb'
 obtain rfl := Option.some.inj hb'
 obtain ⟨fs, us, rfl, rfl, rfl⟩ := hfv
 by_cases hnil : l = []
 ·subst hnil
  have hv' : ∃ p c, v = .slice p 0 c := by
   rcases hv with rfl | ⟨-, a, rfl⟩
   ·exact ⟨_, _, rfl⟩
   ·exact ⟨_, _, rfl⟩
  obtain ⟨p, c, rfl⟩ := hv'
  refine Calls.mono (h0 p c _ w) ?_
  rintro e w' ⟨rfl, rfl⟩
  have e : srt cf ([] : List α) = [] := by unfold srt; simp
  rw [e]
  exact ⟨_, I, β, χ, rfl, Evo.refl _ _, fun _ h => h, fun _ h => .inl h, ⟨[], rfl, rfl⟩, fun _ _ h => h, hn, ho, hsep, fun n b h => ⟨(hχ n b h).1, (hχ n b h).2, .inl ⟨n, h⟩⟩⟩
 ·have hpos : 0 < l.length := List.length_pos_iff.2 hnil
  simp only [List.length_map] at hle
  have hcap : bl.cap ≠ 0 := by omega
  rcases hF with ⟨h, -⟩ | ⟨F', hχ8, ⟨arr, ty, hheap, hsize⟩, hJ⟩
  ·exact absurd h hcap
  rcases hv with rfl | ⟨h, -⟩
  case inr => exact absurd h.symm hcap
  have hbs : bl.b < w.heap.size := (hχ 8 bl.b (by rw [hχ8]; simp)).2
  have hbI : ¬ I bl.b := (hχ 8 bl.b (by rw [hχ8]; simp)).1
  rw [RWe_g hk h1] at hJ
  obtain ⟨rfl, hJ⟩ := hJ
  have hH : HoldsK enc k w bl.b 0 l.toArray := zru hk hJ fun o => by simp [World.frozen?, hheap]
  have hcl0 := zxf (k := k) hcmp bl.b 0 l.toArray.size w
  have hcl := hc #[] bl.b bl.cap l.toArray w hcl0 hH hbs (by simp; omega)
  have hargE : (⟨[Value.slice (some ⟨bl.b, bl.o + 0 * bl.sz, none⟩) l.length (bl.cap - 0), Value.func (.func g) ⟨[]⟩ ⟨[]⟩]⟩ : Array Value) = #[.slice (some ⟨bl.b, 0, none⟩) l.toArray.size bl.cap, .func (.func g) #[] #[]] := by simp [hbo]
  rw [hargE]
  refine Calls.mono hcl ?_
  rintro e w' ⟨rfl, n, os, rfl⟩
  rw [show (l.toArray.toList.mergeSort fun x y => !(ltOf cf) y x) = srt cf l from rfl]
  have hSl := zml cf l
  have hsz2 : (srt cf l).length * k ≤ arr.size := by
   rw [hSl]
   have := Nat.mul_le_mul_right k hle
   omega
  refine ⟨_, I, β, χ, rfl, (zjn enc k w bl.b n _ os).mono fun b _ h => ⟨8, by rw [hχ8, h]; simp⟩, fun _ h => h, fun _ h => .inl h, ⟨[], rfl, rfl⟩, fun _ _ h => h, ?_, ?_, hsep, ?_⟩
  ·intro m h
   by_cases hm : m = 8
   ·subst hm; rw [h8] at h; cases h
   ·exact hn m (by rw [hother _ _ m hm] at h; exact h)
  ·intro m o h
   by_cases hm : m = 8
   ·subst hm
    rw [h8] at h
    obtain rfl := Option.some.inj h
    refine ⟨bl, hb, hsz, hbo, by simpa [hSl] using hle, hnd, .inr ⟨[], hχ8, ⟨_, _, zmm hbs hheap, ?_⟩, ?_⟩⟩
    ·simpa [putCells] using hsize
    ·rw [RWe_g hk h1]
     exact ⟨rfl, fun j hj c hc => zmn hk hbs hheap hsz2 j hj c hc⟩
   ·have h3 := h
    unfold postOb at h3
    split at h3
    ·split at h3
     ·cases h3
     ·rw [List.getElem?_eq_none (by simp; omega)] at h3; cases h3
    ·simp at h3
  ·intro m b h
   refine ⟨(hχ m b h).1, ?_, .inl ⟨m, h⟩⟩
   have := (hχ m b h).2
   have h2 := (zjn enc k w bl.b n (srt cf l).toArray os).size
   omega
theorem zxg {P : Program} {f g : FuncId} {k : Nat} {enc : α → List Value} (hk : ∀ x, (enc x).length = k) (h1 : ∀ x, ∀ v ∈ enc x, v.oneCell' = true) {cf : α → α → Int} (hf : ∃ fn, P.funcs[f]? = some fn ∧ (fn.name == "runtime.NumGoroutine") = false ∧ fn.body.isNone = false)
 (hc : ∀ (cb : Array Value) (blk cap : Nat) (d : Array α) (w : World), CmpLays P g cb enc k cf blk 0 d.size w → HoldsK enc k w blk 0 d → blk < w.heap.size → d.size < 4611686018427387904 → Calls P f #[.slice (some ⟨blk, 0, none⟩) d.size cap, .func (.func g) #[] cb] w fun e w' => e = .returned (.tuple #[]) ∧ ∃ n os, w' = sortWorldK enc k w blk 0 n (d.toList.mergeSort fun x y => !(ltOf cf) y x).toArray os)
 (h0 : ∀ (p : Option Addr) (cap : Nat) (fv : Value) (w : World), Calls P f #[.slice p 0 cap, fv] w fun e w' => e = .returned (.tuple #[]) ∧ w' = w)
 {cs : List AV} (hcs : cs.all plain1 = true) (hcmp : ∀ x y, GCall P g [.agg (gCells enc x), .agg (gCells enc y), .ptr 0 0] [cs] [] (.g (.int .i64 (cf x y))) []) (l : List α) (hl : l.length ≤ 1048576) :
 XCall P f [.arr 9 0 l.length, .fn g [] [.ptr 8 0]] [.cells cs, .own k (l.map (gCells enc))] (.tup []) [.cells cs, .own k ((srt cf l).map (gCells enc))] [] := by
 refine ⟨hf, rfl, by simp, by simp [OB.xk], ?_⟩
 intro w I β χ vs hI hargs hn ho hsep hχ
 have h8 : ∀ xs : List (List AV), postOb [.cells cs, .own k xs] [] 9 = some (.own k xs) := fun xs => by simp [postOb]
 have hother : ∀ (xs ys : List (List AV)) n, n ≠ 9 → postOb [.cells cs, .own k xs] [] n = postOb [.cells cs, .own k ys] [] n := by
  intro xs ys n hne
  unfold postOb
  split
  ·split
   ·rfl
   ·rename_i h1 h2
    obtain ⟨j, hj⟩ : ∃ j, n - 8 = j := ⟨_, rfl⟩
    match j, hj with
    | 0, hj => rw [hj]; rfl
    | 1, hj => omega
    | j + 2, hj => rw [hj]; simp
  ·simp
 obtain ⟨bl, hb, hsz, hbo, hle, hnd, hF⟩ := ho 9 _ (h8 _)
 obtain ⟨v, vs', rfl, ha, fv, vs'', rfl, hfv, rfl⟩ := hargs
 obtain ⟨bl', hb', hle', hv⟩ := ha
 rw [hb] at hb'
 obtain rfl := Option.some.inj hb'
 obtain ⟨fs, us, rfl, rfl, ⟨u0, us0, rfl, ⟨bc', hbc', rfl⟩, rfl⟩⟩ := hfv
 by_cases hnil : l = []
 ·subst hnil
  have hv' : ∃ p c, v = .slice p 0 c := by
   rcases hv with rfl | ⟨-, a, rfl⟩
   ·exact ⟨_, _, rfl⟩
   ·exact ⟨_, _, rfl⟩
  obtain ⟨p, c, rfl⟩ := hv'
  refine Calls.mono (h0 p c _ w) ?_
  rintro e w' ⟨rfl, rfl⟩
  have e : srt cf ([] : List α) = [] := by unfold srt; simp
  rw [e]
  exact ⟨_, I, β, χ, rfl, Evo.refl _ _, fun _ h => h, fun _ h => .inl h, ⟨[], rfl, rfl⟩, fun _ _ h => h, hn, ho, hsep, fun n b h => ⟨(hχ n b h).1, (hχ n b h).2, .inl ⟨n, h⟩⟩⟩
 ·have hpos : 0 < l.length := List.length_pos_iff.2 hnil
  simp only [List.length_map] at hle
  have hcap : bl.cap ≠ 0 := by omega
  rcases hF with ⟨h, -⟩ | ⟨F', hχ8, ⟨arr, ty, hheap, hsize⟩, hJ⟩
  ·exact absurd h hcap
  rcases hv with rfl | ⟨h, -⟩
  case inr => exact absurd h.symm hcap
  have hbs : bl.b < w.heap.size := (hχ 9 bl.b (by rw [hχ8]; simp)).2
  have hbI : ¬ I bl.b := (hχ 9 bl.b (by rw [hχ8]; simp)).1
  rw [RWe_g hk h1] at hJ
  obtain ⟨rfl, hJ⟩ := hJ
  have hH : HoldsK enc k w bl.b 0 l.toArray := zru hk hJ fun o => by simp [World.frozen?, hheap]
  obtain ⟨bc, hbc, hFc, hOw, hRc⟩ := ho 8 (.cells cs) (by simp [postOb])
  rw [hbc] at hbc'
  obtain rfl := Option.some.inj hbc'
  have hbcs := (hχ 8 bc.b (by rw [hFc]; simp)).2
  have hbcI := (hχ 8 bc.b (by rw [hFc]; simp)).1
  have hbne : bc.b ≠ bl.b := fun e => hsep 8 9 (by decide) bc.b (by rw [hFc]; simp) (by rw [hχ8, e]; simp)
  have hRn : ∀ (cs : List AV) (o : Nat), cs.all plain1 = true → Rcs w I β bc.b o cs → Rcs w I (fun _ => none) bc.b o cs := by
   intro cs
   induction cs with
   | nil => intro o _ _; trivial
   | cons c cs ih =>
    intro o hp h
    simp only [List.all_cons, Bool.and_eq_true] at hp
    obtain ⟨⟨v, hv, h1⟩, h2⟩ := h
    refine ⟨⟨v, hv, ?_⟩, ih (o + 1) hp.2 h2⟩
    cases c <;> first | exact h1 | simp [plain1] at hp
  have hcl0 := ztm (k := k) hcs hcmp bl.b 0 l.toArray.size w I bc (fun b hb => ⟨hI b hb, fun e => hbI (e ▸ hb)⟩) hbcI hbcs hbne hbs (hRn cs _ hcs hRc)
  have hcl := hc #[.pointer (some ⟨bc.b, bc.o + 0, none⟩)] bl.b bl.cap l.toArray w hcl0 hH hbs (by simp; omega)
  have hargE : (⟨[Value.slice (some ⟨bl.b, bl.o + 0 * bl.sz, none⟩) l.length (bl.cap - 0), Value.func (.func g) ⟨[]⟩ ⟨[.pointer (some ⟨bc.b, bc.o + 0, none⟩)]⟩]⟩ : Array Value) = #[.slice (some ⟨bl.b, 0, none⟩) l.toArray.size bl.cap, .func (.func g) #[] #[.pointer (some ⟨bc.b, bc.o + 0, none⟩)]] := by simp [hbo]
  rw [hargE]
  refine Calls.mono hcl ?_
  rintro e w' ⟨rfl, n, os, rfl⟩
  rw [show (l.toArray.toList.mergeSort fun x y => !(ltOf cf) y x) = srt cf l from rfl]
  have hSl := zml cf l
  have hsz2 : (srt cf l).length * k ≤ arr.size := by
   rw [hSl]
   have := Nat.mul_le_mul_right k hle
   omega
  refine ⟨_, I, β, χ, rfl, (zjn enc k w bl.b n _ os).mono fun b _ h => ⟨9, by rw [hχ8, h]; simp⟩, fun _ h => h, fun _ h => .inl h, ⟨[], rfl, rfl⟩, fun _ _ h => h, ?_, ?_, hsep, ?_⟩
  ·intro m h
   by_cases hm : m = 9
   ·subst hm; rw [h8] at h; cases h
   ·exact hn m (by rw [hother _ _ m hm] at h; exact h)
  ·intro m o h
   by_cases hm : m = 9
   ·subst hm
    rw [h8] at h
    obtain rfl := Option.some.inj h
    refine ⟨bl, hb, hsz, hbo, by simpa [hSl] using hle, hnd, .inr ⟨[], hχ8, ⟨_, _, zmm hbs hheap, ?_⟩, ?_⟩⟩
    ·simpa [putCells] using hsize
    ·rw [RWe_g hk h1]
     exact ⟨rfl, fun j hj c hc => zmn hk hbs hheap hsz2 j hj c hc⟩
   ·have h2 : m = 8 := by
     refine Classical.byContradiction fun e => ?_
     unfold postOb at h
     split at h
     ·split at h
      ·cases h
      ·rw [List.getElem?_eq_none (by simp; omega)] at h; cases h
     ·simp at h
    subst h2
    have h3 : o = .cells cs := by simpa [postOb] using h.symm
    subst h3
    obtain ⟨bc, hbc, hFc, hOw, hRc⟩ := ho 8 (.cells cs) (by simp [postOb])
    have hbcs := (hχ 8 bc.b (by rw [hFc]; simp)).2
    have hbne : bc.b ≠ bl.b := fun e => hsep 8 9 (by decide) bc.b (by rw [hFc]; simp) (by rw [hχ8, e]; simp)
    have hh := zkb enc k w bl.b n (srt cf l).toArray os bc.b hbcs hbne
    refine ⟨bc, hbc, hFc, zh2 hh hOw, ?_⟩
    have key : ∀ (cs : List AV) (o : Nat), cs.all plain1 = true → Rcs w I β bc.b o cs → Rcs (sortWorldK enc k w bl.b 0 n (srt cf l).toArray os) I β bc.b o cs := by
     intro cs
     induction cs with
     | nil => intro o _ _; trivial
     | cons c cs ih =>
      intro o hp h
      simp only [List.all_cons, Bool.and_eq_true] at hp
      obtain ⟨⟨v, hv, h1⟩, h2⟩ := h
      refine ⟨⟨v, ?_, zdc (fun _ h => h) (fun b hb => zkb enc k w bl.b n (srt cf l).toArray os b (hI b hb) (fun e => hbI (e ▸ hb))) (fun n bl h => h) c v h1⟩, ih (o + 1) hp.2 h2⟩
      rw [← hv]
      simp [World.cell?, hh]
    exact key cs _ hcs hRc
  ·intro m b h
   refine ⟨(hχ m b h).1, ?_, .inl ⟨m, h⟩⟩
   have := (hχ m b h).2
   have h2 := (zjn enc k w bl.b n (srt cf l).toArray os).size
   omega
end
end Go.Proofs.YtfbmhgiokfpgiaaGreat.Vs
end

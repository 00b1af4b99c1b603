import Derived.Test.YtmheohnbkaoipaaGreatSFQ
open Go Go.Proofs Go.Proofs.YtmheohnbkaoipaaGreat.Vs
namespace Go.Proofs.YtmheohnbkaoipaaGreat.Vs
set_option linter.all false
set_option linter.unusedSimpArgs false
set_option linter.unusedVariables false
set_option maxRecDepth 100000
abbrev SetV := DtCSet × (Nat → Value)
abbrev SnapV := DtCSnap × (Nat → Value)
def setV (z : SetV) : List AV := ux z.2 0 (DtCSet.cells z.1)
def setP (z : SetV) : List (AV × Value) := pkc z.2 0 (DtCSet.cells z.1)
def snapV (z : SnapV) : List AV := ux z.2 0 (DtCSnap.cells z.1)
def snapP (z : SnapV) : List (AV × Value) := pkc z.2 0 (DtCSnap.cells z.1)
theorem zd0 (z : SetV) : setV z = [.s z.1.fName, .g (z.2 1)] := rfl
theorem setP_c (z : SetV) : setP z = [(.sl 3 (z.1.fSnaps.map DtCSnap.cells), z.2 1)] := rfl
theorem zct (z : SnapV) : snapV z = [.s z.1.fName, .s z.1.fTag, .g (z.2 2)] := rfl
theorem zcm (zs : List SetV) : scR (zs.map setV) = true := zfp _ (fun _ => rfl) zs
theorem zcf (zs : List SnapV) : scR (zs.map snapV) = true := zfp _ (fun _ => rfl) zs
section
variable {nt : Nat} {fs : List Nat} {Q : AExit → St → Prop} {st : St} {c : Code}
theorem zd9 (n pk : Nat) {us : List DtCSet} (hob : st.ob n = some (.own 2 (us.map DtCSet.cells))) (hpk : st.ob pk = none)
 (h : ∀ zs : List SetV, zs.map (·.1) = us → (∀ z ∈ zs, ∀ j, (z.2 j).oneCell' = true) → AW Tryz.prog nt fs c Q { st with ob := upd (upd st.ob pk (some (.park (zs.flatMap setP)))) n (some (.win 2 (zs.map setV))) }) : AW Tryz.prog nt fs c Q st :=
 zpc DtCSet.cells n pk hob hpk h
theorem zhn (n pk : Nat) {ks zs : List SetV} (hn : st.ob n = some (.win 2 (ks.map setV))) (hpk : st.ob pk = some (.park (zs.flatMap setP))) (hs : ks.Sublist zs) : LeS fs st { st with ob := upd (upd st.ob pk (some .dead)) n (some (.own 2 (ks.map fun z => DtCSet.cells z.1))) } :=
 LeS.join DtCSet.cells (fun _ => rfl) n pk hn hpk hs
theorem zf6 (n pk : Nat) {us : List DtCSnap} (hob : st.ob n = some (.own 3 (us.map DtCSnap.cells))) (hpk : st.ob pk = none)
 (h : ∀ zs : List SnapV, zs.map (·.1) = us → (∀ z ∈ zs, ∀ j, (z.2 j).oneCell' = true) → AW Tryz.prog nt fs c Q { st with ob := upd (upd st.ob pk (some (.park (zs.flatMap snapP)))) n (some (.win 3 (zs.map snapV))) }) : AW Tryz.prog nt fs c Q st :=
 zpc DtCSnap.cells n pk hob hpk h
theorem zkq (n pk : Nat) {ks zs : List SnapV} (hn : st.ob n = some (.win 3 (ks.map snapV))) (hpk : st.ob pk = some (.park (zs.flatMap snapP))) (hs : ks.Sublist zs) : LeS fs st { st with ob := upd (upd st.ob pk (some .dead)) n (some (.own 3 (ks.map fun z => DtCSnap.cells z.1))) } :=
 LeS.join DtCSnap.cells (fun _ => rfl) n pk hn hpk hs
theorem fm_at {α β : Type} (g : α → List β) (l : List α) (k : Nat) (h : k < l.length) : l.flatMap g = (l.take k).flatMap g ++ (g l[k] ++ (l.drop (k + 1)).flatMap g) := by
 rw [← List.flatMap_cons, ← List.flatMap_append]
 congr 1
 rw [List.getElem_cons_drop, List.take_append_drop]
theorem set_split {α : Type} (l : List α) (k : Nat) (x : α) (h : k < l.length) : l.set k x = l.take k ++ x :: l.drop (k + 1) := List.set_eq_take_append_cons_drop.trans (by rw [if_pos h])
/-- The row of the k-th set gets a name. -/
theorem zgh (n pk S k : Nat) {l : List DtCSet} (hk : k < l.length) (hob : st.ob n = some (.own 2 (l.map DtCSet.cells))) (hpk : st.ob pk = none) (hS : st.ob S = none) (h1 : n ≠ S) (h2 : pk ≠ S) (h3 : n ≠ pk)
 (h : ∀ zs : List SetV, zs.map (·.1) = l → AW Tryz.prog nt fs c Q { st with ob := upd (upd (upd st.ob S (some (.own 3 (l[k].fSnaps.map DtCSnap.cells)))) pk (some (.park ((zs.take k).flatMap setP ++ (zs.drop (k + 1)).flatMap setP)))) n (some (.win 2 ((zs.map setV).set k [.s l[k].fName, .arr S 0 l[k].fSnaps.length]))) }) : AW Tryz.prog nt fs c Q st := by
 refine zd9 n pk hob hpk fun zs hz _ => ?_
 have hzl : zs.length = l.length := by rw [← hz]; simp
 have hkz : k < zs.length := by omega
 have hzk : zs[k].1 = l[k] := by
  have : (zs.map (·.1))[k]'(by simpa using hkz) = l[k] := by simp only [hz]
  simpa using this
 have hp : zs.flatMap setP = (zs.take k).flatMap setP ++ (AV.sl 3 (l[k].fSnaps.map DtCSnap.cells), zs[k].2 1) :: (zs.drop (k + 1)).flatMap setP := by
  rw [fm_at setP zs k hkz, setP_c, hzk]; rfl
 refine zfk (LeS.unpark (s := 3) (ys := l[k].fSnaps.map DtCSnap.cells) (v := zs[k].2 1) (k := k) (j := 1) (x := setV zs[k]) (xs := zs.map setV) (ps1 := (zs.take k).flatMap setP) (ps2 := (zs.drop (k + 1)).flatMap setP) (sz := 2) n pk S (zbk _ _ _) ?_ ?_ (by simp [hkz]) (by simp [zd0])) ?_
 ·show upd (upd st.ob pk _) n _ pk = _
  rw [zbg _ _ (Ne.symm h3), zbk, hp]
 ·show upd (upd st.ob pk _) n _ S = none
  rw [zbg _ _ (Ne.symm h1), zbg _ _ (Ne.symm h2)]; exact hS
 ·have hh := h zs hz
  have e : upd (upd (upd (upd (upd st.ob pk (some (OB.park (zs.flatMap setP)))) n (some (OB.win 2 (zs.map setV)))) S (some (OB.own 3 (l[k].fSnaps.map DtCSnap.cells)))) pk (some (OB.park ((zs.take k).flatMap setP ++ (zs.drop (k + 1)).flatMap setP)))) n (some (OB.win 2 ((zs.map setV).set k ((setV zs[k]).set 1 (.arr S 0 (l[k].fSnaps.map DtCSnap.cells).length))))) =
   upd (upd (upd st.ob S (some (.own 3 (l[k].fSnaps.map DtCSnap.cells)))) pk (some (.park ((zs.take k).flatMap setP ++ (zs.drop (k + 1)).flatMap setP)))) n (some (.win 2 ((zs.map setV).set k [.s l[k].fName, .arr S 0 l[k].fSnaps.length]))) := by
   funext m
   by_cases e1 : m = n
   ·subst e1; rw [zbk, zbk, zd0, hzk]; simp
   ·rw [zbg _ _ e1, zbg _ _ e1]
    by_cases e2 : m = pk
    ·subst e2; rw [zbk, zbk]
    ·rw [zbg _ _ e2, zbg _ _ e2]
     by_cases e3 : m = S
     ·subst e3; rw [zbk, zbk]
     ·rw [zbg _ _ e3, zbg _ _ e3, zbg _ _ e1, zbg _ _ e2]
  show AW Tryz.prog nt fs c Q { env := st.env, ob := _ }
  rw [e]; exact hh
/-- .. and goes back. -/
theorem zcu (n pk S k : Nat) {l : List DtCSet} {zs : List SetV} (hz : zs.map (·.1) = l) (hk : k < l.length) (nm : List UInt8) (sn : List DtCSnap) (hn : st.ob n = some (.win 2 ((zs.map setV).set k [.s nm, .arr S 0 sn.length]))) (hp : st.ob pk = some (.park ((zs.take k).flatMap setP ++ (zs.drop (k + 1)).flatMap setP))) (hS : st.ob S = some (.own 3 (sn.map DtCSnap.cells))) (h1 : n ≠ S) (h2 : pk ≠ S) (h3 : n ≠ pk)
 (h : AW Tryz.prog nt fs c Q { st with ob := upd (upd (upd st.ob S (some .dead)) pk (some .dead)) n (some (.own 2 ((l.set k { fName := nm, fSnaps := sn }).map DtCSet.cells))) }) : AW Tryz.prog nt fs c Q st := by
 have hzl : zs.length = l.length := by rw [← hz]; simp
 have hkz : k < zs.length := by omega
 refine zz7 (s := 3) (sz := 2) (k := k) (j := 1) (x := [.s nm, .arr S 0 sn.length]) n pk S hn hp hS (by simp [hkz]) (by simp) fun v hv => ?_
 let z' : SetV := ({ fName := nm, fSnaps := sn }, fun _ => v)
 have e1 : ((zs.map setV).set k [.s nm, .arr S 0 sn.length]).set k ([AV.s nm, .arr S 0 sn.length].set 1 (.g v)) = (zs.set k z').map setV := by
  rw [List.set_set, List.map_set]; rfl
 have e2 : (zs.take k).flatMap setP ++ (AV.sl 3 (sn.map DtCSnap.cells), v) :: (zs.drop (k + 1)).flatMap setP = (zs.set k z').flatMap setP := by
  rw [set_split zs k z' hkz, List.flatMap_append, List.flatMap_cons]; rfl
 rw [e1, e2]
 refine zfk (zhn (ks := zs.set k z') (zs := zs.set k z') n pk (zbk _ _ _) ?_ (List.Sublist.refl _)) ?_
 ·show upd (upd _ pk _) n _ pk = _
  rw [zbg _ _ (Ne.symm h3), zbk]
 ·have e3 : ((zs.set k z').map fun z => DtCSet.cells z.1) = (l.set k { fName := nm, fSnaps := sn }).map DtCSet.cells := by
   rw [← hz, ← List.map_set (f := (·.1)) (l := zs) (i := k) (a := z'), List.map_map]; rfl
  rw [e3]
  have e : upd (upd (upd (upd (upd st.ob S (some OB.dead)) pk (some (OB.park ((zs.set k z').flatMap setP)))) n (some (OB.win 2 ((zs.set k z').map setV)))) pk (some OB.dead)) n (some (OB.own 2 ((l.set k { fName := nm, fSnaps := sn }).map DtCSet.cells))) =
   upd (upd (upd st.ob S (some .dead)) pk (some .dead)) n (some (.own 2 ((l.set k { fName := nm, fSnaps := sn }).map DtCSet.cells))) := by
   funext m
   by_cases e1 : m = n
   ·subst e1; rw [zbk, zbk]
   ·rw [zbg _ _ e1, zbg _ _ e1]
    by_cases e2 : m = pk
    ·subst e2; rw [zbk, zbk]
    ·rw [zbg _ _ e2, zbg _ _ e2, zbg _ _ e1, zbg _ _ e2]
  show AW Tryz.prog nt fs c Q { env := st.env, ob := _ }
  rw [e]; exact h
end
end Go.Proofs.YtmheohnbkaoipaaGreat.Vs

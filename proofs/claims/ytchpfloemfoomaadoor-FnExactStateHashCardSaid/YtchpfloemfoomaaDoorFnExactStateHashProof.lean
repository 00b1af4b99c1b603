/- For all states the law FnExactStateHash of the program returns true (the program's hash of a state is the reference's), where the words of the hash stand in their variable as the program lays them. -/
import Derived.Test.YtchpfloemfoomaaDoorSM6
import Derived.Test.YtchpfloemfoomaaDoorRows
import Derived.Test.YtchpfloemfoomaaDoorCards
import Derived.Test.YtchpfloemfoomaaDoorTie
import Derived.WalkKit
import Derived.ProofKit
import Derived.OpenShut
import Derived.LaidLaws
import Derived.LaidHandle
import Derived.SevenTiedAt
namespace Go.Proofs.YtchpfloemfoomaaDoor.fnExactStateHash
set_option linter.all false
open Go.ChangeShapes Go.WideShapes Go.ChangeAt Go.RowKit Go.Proofs.YtchpfloemfoomaaDoor.Vs
set_option maxRecDepth 100000
theorem own:ownKnob Tryd.prog.godebug=none:=by kernel_rfl
theorem laidOut:laidOutB Tryd.prog=true:=by kernel_rfl
theorem c9:Tryd.prog.cellsOf 9=1:=by kernel_rfl
theorem c61:Tryd.prog.cellsOf 61=3:=by kernel_rfl
theorem c86:Tryd.prog.cellsOf 86=2:=by kernel_rfl
theorem c103:Tryd.prog.cellsOf 103=3:=by kernel_rfl
theorem of_103(n:Nat):∀x,shp Tryd.prog (n+2) 103 x→∃u:DtCSnap,x=DtCSnap.cells u∧DtCSnap.wf u:=by
 intro x hx
 unfold shp at hx
 rw [Tryd.underlying103] at hx
 simp only [shpF] at hx
 obtain ⟨a0,_,rfl,-,h0,a1,_,rfl,-,h1,a2,_,rfl,-,h2,rfl⟩:=hx
 obtain ⟨u0,rfl,w0⟩:=(zpd Tryd.underlying9) _ h0
 obtain ⟨u1,rfl,w1⟩:=(zpd Tryd.underlying9) _ h1
 obtain ⟨u2,rfl,w2⟩:=(zrz Tryd.underlying22 c9 (zpd Tryd.underlying9)) _ h2
 exact ⟨⟨u0,u1,u2⟩,rfl,w0,w1,w2⟩
theorem of_86(n:Nat):∀x,shp Tryd.prog (n+4) 86 x→∃u:DtCSet,x=DtCSet.cells u∧DtCSet.wf u:=by
 intro x hx
 unfold shp at hx
 rw [Tryd.underlying86] at hx
 simp only [shpF] at hx
 obtain ⟨a0,_,rfl,-,h0,a1,_,rfl,-,h1,rfl⟩:=hx
 obtain ⟨u0,rfl,w0⟩:=(zpd Tryd.underlying9) _ h0
 obtain ⟨u1,rfl,w1⟩:=(zrz Tryd.underlying84 c103 (of_103 _)) _ h1
 exact ⟨⟨u0,u1⟩,rfl,w0,w1⟩
theorem of_31(n:Nat):∀x,shp Tryd.prog (n+6) 31 x→∃u:DtCatalog,x=DtCatalog.cells u∧DtCatalog.wf u:=by
 intro x hx
 unfold shp at hx
 rw [Tryd.underlying31] at hx
 simp only [shpF] at hx
 obtain ⟨a0,_,rfl,-,h0,rfl⟩:=hx
 obtain ⟨u0,rfl,w0⟩:=(zrz Tryd.underlying29 c86 (of_86 _)) _ h0
 exact ⟨⟨u0⟩,rfl,w0⟩
theorem of_61(n:Nat):∀x,shp Tryd.prog (n+1) 61 x→∃u:DtSaid,x=DtSaid.cells u∧DtSaid.wf u:=by
 intro x hx
 unfold shp at hx
 rw [Tryd.underlying61] at hx
 simp only [shpF] at hx
 obtain ⟨a0,_,rfl,-,h0,a1,_,rfl,-,h1,a2,_,rfl,-,h2,rfl⟩:=hx
 obtain ⟨u0,rfl,w0⟩:=(of_int Tryd.underlying3) _ h0
 obtain ⟨u1,rfl,w1⟩:=(of_int Tryd.underlying3) _ h1
 obtain ⟨u2,rfl,w2⟩:=(zpd Tryd.underlying9) _ h2
 exact ⟨⟨u0,u1,u2⟩,rfl,w0,w1,w2⟩
theorem of_34(n:Nat):∀x,shp Tryd.prog (n+7) 34 x→∃u:DtState,x=DtState.cells u∧DtState.wf u:=by
 intro x hx
 unfold shp at hx
 rw [Tryd.underlying34] at hx
 simp only [shpF] at hx
 obtain ⟨a0,_,rfl,-,h0,a1,_,rfl,-,h1,rfl⟩:=hx
 obtain ⟨u0,rfl,w0⟩:=(of_31 _) _ h0
 obtain ⟨u1,rfl,w1⟩:=(zrz Tryd.underlying32 c61 (of_61 _)) _ h1
 exact ⟨⟨u0,u1⟩,rfl,w0,w1⟩
theorem walk:∀l,shpA Tryd.prog 10 [34] l→PCall Tryd.prog 5 l (.g (.bool true)):=by
 rintro l ⟨cs0,l0,rfl,h0,rfl⟩
 have e0:argA Tryd.prog 34 cs0=.agg cs0:=by unfold argA;rw [Tryd.underlying34]
 rw [e0]
 obtain ⟨u0,rfl,w0⟩:=(of_34 _) _ h0
 exact zpx u0 w0
/-- A world that holds the words. -/
noncomputable def laidWorld(os:Os):World :=
 { World.holding Tryd.prog os ⟨#[],#[],[]⟩ with heap:=(World.holding Tryd.prog os ⟨#[],#[],[]⟩).heap.modify 0 fun
  | .cells _ t frozen=>.cells #[.int .u32 1116352408,.int .u32 1899447441,.int .u32 3049323471,.int .u32 3921009573,.int .u32 961987163,.int .u32 1508970993,.int .u32 2453635748,.int .u32 2870763221,.int .u32 3624381080,.int .u32 310598401,.int .u32 607225278,.int .u32 1426881987,.int .u32 1925078388,.int .u32 2162078206,.int .u32 2614888103,.int .u32 3248222580,.int .u32 3835390401,.int .u32 4022224774,.int .u32 264347078,.int .u32 604807628,.int .u32 770255983,.int .u32 1249150122,.int .u32 1555081692,.int .u32 1996064986,.int .u32 2554220882,.int .u32 2821834349,.int .u32 2952996808,.int .u32 3210313671,.int .u32 3336571891,.int .u32 3584528711,.int .u32 113926993,.int .u32 338241895,.int .u32 666307205,.int .u32 773529912,.int .u32 1294757372,.int .u32 1396182291,.int .u32 1695183700,.int .u32 1986661051,.int .u32 2177026350,.int .u32 2456956037,.int .u32 2730485921,.int .u32 2820302411,.int .u32 3259730800,.int .u32 3345764771,.int .u32 3516065817,.int .u32 3600352804,.int .u32 4094571909,.int .u32 275423344,.int .u32 430227734,.int .u32 506948616,.int .u32 659060556,.int .u32 883997877,.int .u32 958139571,.int .u32 1322822218,.int .u32 1537002063,.int .u32 1747873779,.int .u32 1955562222,.int .u32 2024104815,.int .u32 2227730452,.int .u32 2361852424,.int .u32 2428436474,.int .u32 2756734187,.int .u32 3204031479,.int .u32 3329325298] t frozen
  | o=>o }
theorem laidWorld_met(os:Os)(args:Array Value):laidMet Tryd.prog Rows.fnExactStateHashRow.laid ((laidWorld os).forCall (λ_ _=>0) ⟨#[],args,[]⟩).memory :=
 laidMet_of_run' 8 (by kernel_rfl) (by kernel_rfl)
set_option maxRecDepth 100000 in
theorem lifted(os:Os)(started:os.Started)(H:Type)(enc:TypeId × Value→H) :
 ReturnsInHanded {} Tryd.checked os 5 .any (λw args=>(Rows.fnExactStateHashSpec.pre enc Tryd.prog Tryd.f5 Rows.fnExactStateHashRow.domain false w args∧laidMetH Tryd.prog Rows.fnExactStateHashRow.laid w)∧sizedMet enc Tryd.prog Tryd.f5 (OpenSpec.ofChange Rows.fnExactStateHashSpec) false w args)
  (Rows.fnExactStateHashSpec.post enc Tryd.prog Tryd.f5 false true false false):=by
 refine returnsInHanded_of_change_and (C:=Tryd.checked) (X:=λw _=>laidMetH Tryd.prog Rows.fnExactStateHashRow.laid w) (λ_ _ _ hh h=>h.of_heap hh) own started (by kernel_rfl) Tryd.func5
  (ChangeSpec.witness_at (enc:=enc) (C:=Tryd.checked) (os:=os) (X:=λw _=>laidMetH Tryd.prog Rows.fnExactStateHashRow.laid w) false (laidWorld os) #[.agg #[.slice none 0 0,.slice none 0 0]] 8 rfl (by kernel_rfl) (by kernel_rfl) (by kernel_rfl) (by kernel_rfl) (by kernel_rfl) (laidWorld_met os _)) ?_
 intro W base args ds gs before hval hW _ _ hL _
 have hgw : GW W fun b => b < W.heap.size := zta (vn := "loop.example/g00954/impl.shaWords") (vt := 94) (e := 80) (by kernel_rfl) (by kernel_rfl) Tryd.underlying94 Tryd.underlying80 (by kernel_rfl) hL
 refine zvl (n := 10) (tb := 4) (vn := "loop.example/g00954/impl.shaWords") (vt := 94) rfl (by kernel_rfl) (by kernel_rfl) (by kernel_rfl) laidOut (by kernel_rfl) ?_ rfl Tryd.underlying4 ?_ ?_ hval hgw hW
 ·rw [Tryd.params5]
  intro t ht
  have:t=34:=by simpa using ht
  rcases this with rfl
  ·exact ⟨by kernel_rfl,of_decide_eq_true (by kernel_rfl)⟩
 ·intro ds g hds
  rw [Tryd.params5] at hds
  match ds,hds with
  | [d0],_=>exact ⟨rfl,rfl,rfl⟩
 ·rw [Tryd.params5]
  exact walk
theorem over:Rows.FnExactStateHashSaid :=
 OpenClaim.holds_of_wide 5 Tryd.f5 rfl rfl rfl rfl rfl rfl rfl ⟨rfl,rfl,rfl,rfl,rfl⟩ rfl rfl rfl rfl rfl (by kernel_rfl) Tryd.func5 (by kernel_rfl)
  (of_decide_eq_true (by kernel_rfl)) (by unfold Func.isWrapper;first|(rw [if_pos (by decide +kernel)];kernel_rfl)|(rw [if_neg (by decide +kernel)];exact ⟨rfl,rfl⟩))
  (λos started H enc _=>lifted os started H enc)
theorem proved:Rows.FnExactStateHashCardSaid :=
 Claim7.holds_tied_plain_at .later [] [.data] true (true, "0172248043db2c7e4949ef93b23abfe433bfa7a146bf75eab6b57ce4f0ca3026") false
  over (λ_ h=>by cases h) (by kernel_rfl) (λ_ h=>by cases h) fnExactStateHash_row_tie rfl ⟨rfl,rfl⟩ (by kernel_rfl) rfl
  (λf fn hf hfn=>by
   obtain rfl : f = 5 := Option.some.inj ((show Tryd.prog.funcNamed "loop.example/g00954/laws.FnExactStateHash" = some 5 by kernel_rfl).symm.trans hf) |>.symm
   obtain rfl:fn=Tryd.f5:=(Option.some.inj (Tryd.func5.symm.trans hfn)).symm
   exact ⟨by kernel_rfl,λj t ht=>by
    rw [Tryd.params5] at ht
    have h3:(#[34]:Array TypeId).all (λt=>Tryd.prog.wantsStandIn t==false)=true:=by kernel_rfl
    have h4:=Array.all_eq_true_iff_forall_mem.1 h3 t (Array.mem_of_getElem? ht)
    have h5:Tryd.prog.wantsStandIn t=false:=by simpa using h4
    exact h5⟩)
  (by kernel_rfl)
#print axioms proved
end Go.Proofs.YtchpfloemfoomaaDoor.fnExactStateHash

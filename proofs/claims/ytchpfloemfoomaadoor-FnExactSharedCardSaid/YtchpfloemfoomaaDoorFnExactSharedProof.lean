/- For all pairs of texts the law FnExactShared of the program returns true (the program counts the pieces that two texts share as the reference does), where the words of the hash stand in their variable as the program lays them. -/
import Derived.Test.YtchpfloemfoomaaDoorSM5
import Derived.Test.YtchpfloemfoomaaDoorRows
import Derived.Test.YtchpfloemfoomaaDoorCards
import Derived.Test.YtchpfloemfoomaaDoorTie
import Derived.WalkKit
import Derived.ProofKit
import Derived.OpenShut
import Derived.LaidLaws
import Derived.LaidHandle
import Derived.SevenTiedAt
namespace Go.Proofs.YtchpfloemfoomaaDoor.fnExactShared
set_option linter.all false
open Go.ChangeShapes Go.WideShapes Go.ChangeAt Go.RowKit Go.Proofs.YtchpfloemfoomaaDoor.Vs
set_option maxRecDepth 100000
theorem own:ownKnob Tryd.prog.godebug=none:=by kernel_rfl
theorem laidOut:laidOutB Tryd.prog=true:=by kernel_rfl
theorem walk:∀l,shpA Tryd.prog 4 [9,9] l→PCall Tryd.prog 4 l (.g (.bool true)):=by
 rintro l ⟨cs0,l0,rfl,h0,cs1,l1,rfl,h1,rfl⟩
 have e0:∀cs,argA Tryd.prog 9 cs=cs.headD .undef:=λcs=>by unfold argA;rw [Tryd.underlying9]
 rw [e0,e0]
 obtain ⟨u0,rfl,w0⟩:=(of_str Tryd.underlying9) _ h0
 obtain ⟨u1,rfl,w1⟩:=(of_str Tryd.underlying9) _ h1
 exact zv5 u0 w0 u1 w1
/-- A world that holds the words. -/
noncomputable def laidWorld(os:Os):World :=
 { World.holding Tryd.prog os ⟨#[],#[],[]⟩ with heap:=(World.holding Tryd.prog os ⟨#[],#[],[]⟩).heap.modify 0 fun
  | .cells _ t frozen=>.cells #[.int .u32 1116352408,.int .u32 1899447441,.int .u32 3049323471,.int .u32 3921009573,.int .u32 961987163,.int .u32 1508970993,.int .u32 2453635748,.int .u32 2870763221,.int .u32 3624381080,.int .u32 310598401,.int .u32 607225278,.int .u32 1426881987,.int .u32 1925078388,.int .u32 2162078206,.int .u32 2614888103,.int .u32 3248222580,.int .u32 3835390401,.int .u32 4022224774,.int .u32 264347078,.int .u32 604807628,.int .u32 770255983,.int .u32 1249150122,.int .u32 1555081692,.int .u32 1996064986,.int .u32 2554220882,.int .u32 2821834349,.int .u32 2952996808,.int .u32 3210313671,.int .u32 3336571891,.int .u32 3584528711,.int .u32 113926993,.int .u32 338241895,.int .u32 666307205,.int .u32 773529912,.int .u32 1294757372,.int .u32 1396182291,.int .u32 1695183700,.int .u32 1986661051,.int .u32 2177026350,.int .u32 2456956037,.int .u32 2730485921,.int .u32 2820302411,.int .u32 3259730800,.int .u32 3345764771,.int .u32 3516065817,.int .u32 3600352804,.int .u32 4094571909,.int .u32 275423344,.int .u32 430227734,.int .u32 506948616,.int .u32 659060556,.int .u32 883997877,.int .u32 958139571,.int .u32 1322822218,.int .u32 1537002063,.int .u32 1747873779,.int .u32 1955562222,.int .u32 2024104815,.int .u32 2227730452,.int .u32 2361852424,.int .u32 2428436474,.int .u32 2756734187,.int .u32 3204031479,.int .u32 3329325298] t frozen
  | o=>o }
theorem laidWorld_met(os:Os)(args:Array Value):laidMet Tryd.prog Rows.fnExactSharedRow.laid ((laidWorld os).forCall (λ_ _=>0) ⟨#[],args,[]⟩).memory :=
 laidMet_of_run' 8 (by kernel_rfl) (by kernel_rfl)
set_option maxRecDepth 100000 in
theorem lifted(os:Os)(started:os.Started)(H:Type)(enc:TypeId × Value→H) :
 ReturnsInHanded {} Tryd.checked os 4 .any (λw args=>(Rows.fnExactSharedSpec.pre enc Tryd.prog Tryd.f4 Rows.fnExactSharedRow.domain false w args∧laidMetH Tryd.prog Rows.fnExactSharedRow.laid w)∧sizedMet enc Tryd.prog Tryd.f4 (OpenSpec.ofChange Rows.fnExactSharedSpec) false w args)
  (Rows.fnExactSharedSpec.post enc Tryd.prog Tryd.f4 false true false false):=by
 refine returnsInHanded_of_change_and (C:=Tryd.checked) (X:=λw _=>laidMetH Tryd.prog Rows.fnExactSharedRow.laid w) (λ_ _ _ hh h=>h.of_heap hh) own started (by kernel_rfl) Tryd.func4
  (ChangeSpec.witness_at (enc:=enc) (C:=Tryd.checked) (os:=os) (X:=λw _=>laidMetH Tryd.prog Rows.fnExactSharedRow.laid w) false (laidWorld os) #[.string ⟨#[]⟩,.string ⟨#[]⟩] 8 rfl (by kernel_rfl) (by kernel_rfl) (by kernel_rfl) (by kernel_rfl) (by kernel_rfl) (laidWorld_met os _)) ?_
 intro W base args ds gs before hval hW _ _ hL _
 have hgw : GW W fun b => b < W.heap.size := zsi (vn := "loop.example/g00954/impl.shaWords") (vt := 94) (e := 80) (by kernel_rfl) (by kernel_rfl) Tryd.underlying94 Tryd.underlying80 (by kernel_rfl) hL
 refine ztu (n := 4) (tb := 4) (vn := "loop.example/g00954/impl.shaWords") (vt := 94) rfl (by kernel_rfl) (by kernel_rfl) (by kernel_rfl) laidOut (by kernel_rfl) ?_ rfl Tryd.underlying4 ?_ ?_ hval hgw hW
 ·rw [Tryd.params4]
  intro t ht
  have:t=9:=by simpa using ht
  rcases this with rfl
  ·exact ⟨by kernel_rfl,of_decide_eq_true (by kernel_rfl)⟩
 ·intro ds g hds
  rw [Tryd.params4] at hds
  match ds,hds with
  | [d0,d1],_=>exact ⟨rfl,rfl,rfl⟩
 ·rw [Tryd.params4]
  exact walk
theorem over:Rows.FnExactSharedSaid :=
 OpenClaim.holds_of_wide 4 Tryd.f4 rfl rfl rfl rfl rfl rfl rfl ⟨rfl,rfl,rfl,rfl,rfl⟩ rfl rfl rfl rfl rfl (by kernel_rfl) Tryd.func4 (by kernel_rfl)
  (of_decide_eq_true (by kernel_rfl)) (by unfold Func.isWrapper;first|(rw [if_pos (by decide +kernel)];kernel_rfl)|(rw [if_neg (by decide +kernel)];exact ⟨rfl,rfl⟩))
  (λos started H enc _=>lifted os started H enc)
theorem proved:Rows.FnExactSharedCardSaid :=
 Claim7.holds_tied_plain_at .later [] [.data] true (true, "0172248043db2c7e4949ef93b23abfe433bfa7a146bf75eab6b57ce4f0ca3026") false
  over (λ_ h=>by cases h) (by kernel_rfl) (λ_ h=>by cases h) fnExactShared_row_tie rfl ⟨rfl,rfl⟩ (by kernel_rfl) rfl
  (λf fn hf hfn=>by
   obtain rfl : f = 4 := Option.some.inj ((show Tryd.prog.funcNamed "loop.example/g00954/laws.FnExactShared" = some 4 by kernel_rfl).symm.trans hf) |>.symm
   obtain rfl:fn=Tryd.f4:=(Option.some.inj (Tryd.func4.symm.trans hfn)).symm
   exact ⟨by kernel_rfl,λj t ht=>by
    rw [Tryd.params4] at ht
    have h3:t=9:=by
     have:=Array.mem_of_getElem? ht
     simpa using this
    subst h3
    exact (show Tryd.prog.wantsStandIn 9=false by kernel_rfl)⟩)
  (by kernel_rfl)
#print axioms proved
end Go.Proofs.YtchpfloemfoomaaDoor.fnExactShared

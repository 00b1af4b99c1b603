/- For every code of bytes the law FnState of the program returns true (a state is read back from its text, no other text is one, and alike is alike), where the words of the hash stand in their variable as the program lays them. -/
import Derived.Test.YtodmafgmdlkhoaaDoorSM11
import Derived.Test.YtodmafgmdlkhoaaDoorRows
import Derived.Test.YtodmafgmdlkhoaaDoorCards
import Derived.Test.YtodmafgmdlkhoaaDoorTie
import Derived.WalkKit
import Derived.ProofKit
import Derived.OpenShut
import Derived.LaidLaws
import Derived.LaidHandle
import Derived.SevenTiedAt
namespace Go.Proofs.YtodmafgmdlkhoaaDoor.fnState
set_option linter.all false
open Go.ChangeShapes Go.WideShapes Go.ChangeAt Go.RowKit Go.Proofs.YtodmafgmdlkhoaaDoor.Vs
set_option maxRecDepth 100000
theorem own:ownKnob Tryd.prog.godebug=none:=by kernel_rfl
theorem laidOut:laidOutB Tryd.prog=true:=by kernel_rfl
theorem c5:Tryd.prog.cellsOf 5=1:=by kernel_rfl
theorem walk:∀l,shpA Tryd.prog 4 [22] l→PCall Tryd.prog 3 l (.g (.bool true)):=by
 rintro l ⟨cs0,l0,rfl,h0,rfl⟩
 have e0:argA Tryd.prog 22 cs0=cs0.headD .undef:=by unfold argA;rw [Tryd.underlying22]
 rw [e0]
 obtain ⟨u0,rfl,w0⟩:=(of_row Tryd.underlying22 c5 (of_u8 Tryd.underlying5)) _ h0
 exact lawState u0 w0
/-- A world that holds the words. -/
noncomputable def laidWorld(os:Os):World :=
 { World.holding Tryd.prog os ⟨#[],#[],[]⟩ with heap:=(World.holding Tryd.prog os ⟨#[],#[],[]⟩).heap.modify 0 fun
  | .cells _ t frozen=>.cells #[.int .u32 1116352408,.int .u32 1899447441,.int .u32 3049323471,.int .u32 3921009573,.int .u32 961987163,.int .u32 1508970993,.int .u32 2453635748,.int .u32 2870763221,.int .u32 3624381080,.int .u32 310598401,.int .u32 607225278,.int .u32 1426881987,.int .u32 1925078388,.int .u32 2162078206,.int .u32 2614888103,.int .u32 3248222580,.int .u32 3835390401,.int .u32 4022224774,.int .u32 264347078,.int .u32 604807628,.int .u32 770255983,.int .u32 1249150122,.int .u32 1555081692,.int .u32 1996064986,.int .u32 2554220882,.int .u32 2821834349,.int .u32 2952996808,.int .u32 3210313671,.int .u32 3336571891,.int .u32 3584528711,.int .u32 113926993,.int .u32 338241895,.int .u32 666307205,.int .u32 773529912,.int .u32 1294757372,.int .u32 1396182291,.int .u32 1695183700,.int .u32 1986661051,.int .u32 2177026350,.int .u32 2456956037,.int .u32 2730485921,.int .u32 2820302411,.int .u32 3259730800,.int .u32 3345764771,.int .u32 3516065817,.int .u32 3600352804,.int .u32 4094571909,.int .u32 275423344,.int .u32 430227734,.int .u32 506948616,.int .u32 659060556,.int .u32 883997877,.int .u32 958139571,.int .u32 1322822218,.int .u32 1537002063,.int .u32 1747873779,.int .u32 1955562222,.int .u32 2024104815,.int .u32 2227730452,.int .u32 2361852424,.int .u32 2428436474,.int .u32 2756734187,.int .u32 3204031479,.int .u32 3329325298] t frozen
  | o=>o }
theorem laidWorld_met(os:Os)(args:Array Value):laidMet Tryd.prog Rows.fnStateRow.laid ((laidWorld os).forCall (λ_ _=>0) ⟨#[],args,[]⟩).memory :=
 laidMet_of_run' 8 (by kernel_rfl) (by kernel_rfl)
set_option maxRecDepth 100000 in
theorem lifted(os:Os)(started:os.Started)(H:Type)(enc:TypeId × Value→H) :
 ReturnsInHanded {} Tryd.checked os 3 .any (λw args=>(Rows.fnStateSpec.pre enc Tryd.prog Tryd.f3 Rows.fnStateRow.domain false w args∧laidMetH Tryd.prog Rows.fnStateRow.laid w)∧sizedMet enc Tryd.prog Tryd.f3 (OpenSpec.ofChange Rows.fnStateSpec) false w args)
  (Rows.fnStateSpec.post enc Tryd.prog Tryd.f3 false true false false):=by
 refine returnsInHanded_of_change_and (C:=Tryd.checked) (X:=λw _=>laidMetH Tryd.prog Rows.fnStateRow.laid w) (λ_ _ _ hh h=>h.of_heap hh) own started (by kernel_rfl) Tryd.func3
  (ChangeSpec.witness_at (enc:=enc) (C:=Tryd.checked) (os:=os) (X:=λw _=>laidMetH Tryd.prog Rows.fnStateRow.laid w) false (laidWorld os) #[.slice none 0 0] 8 rfl (by kernel_rfl) (by kernel_rfl) (by kernel_rfl) (by kernel_rfl) (by kernel_rfl) (laidWorld_met os _)) ?_
 intro W base args ds gs before hval hW _ _ hL _
 have hgw : GW W fun b => b < W.heap.size := zz9 (vn := "loop.example/g00954/impl.shaWords") (vt := 110) (e := 97) (by kernel_rfl) (by kernel_rfl) Tryd.underlying110 Tryd.underlying97 (by kernel_rfl) hL
 refine law_postV (n := 4) (tb := 4) (vn := "loop.example/g00954/impl.shaWords") (vt := 110) rfl (by kernel_rfl) (by kernel_rfl) (by kernel_rfl) laidOut (by kernel_rfl) ?_ rfl Tryd.underlying4 ?_ ?_ hval hgw hW
 ·rw [Tryd.params3]
  intro t ht
  have:t=22:=by simpa using ht
  rcases this with rfl
  ·exact ⟨by kernel_rfl,of_decide_eq_true (by kernel_rfl)⟩
 ·intro ds g hds
  rw [Tryd.params3] at hds
  match ds,hds with
  | [d0],_=>exact ⟨rfl,rfl,rfl⟩
 ·rw [Tryd.params3]
  exact walk
theorem over:Rows.FnStateSaid :=
 OpenClaim.holds_of_wide 3 Tryd.f3 rfl rfl rfl rfl rfl rfl rfl ⟨rfl,rfl,rfl,rfl,rfl⟩ rfl rfl rfl rfl rfl (by kernel_rfl) Tryd.func3 (by kernel_rfl)
  (of_decide_eq_true (by kernel_rfl)) (by unfold Func.isWrapper;first|(rw [if_pos (by decide +kernel)];kernel_rfl)|(rw [if_neg (by decide +kernel)];exact ⟨rfl,rfl⟩))
  (λos started H enc _=>lifted os started H enc)
theorem proved:Rows.FnStateCardSaid :=
 Claim7.holds_tied_plain_at .later [] [.data] true (true, "7d52e0e265efed3236a9ca0fdad792811d1929a1fb951f9691e7c27b43af6322") false
  over (λ_ h=>by cases h) (by kernel_rfl) (λ_ h=>by cases h) fnState_row_tie rfl ⟨rfl,rfl⟩ (by kernel_rfl) rfl
  (λf fn hf hfn=>by
   obtain rfl : f = 3 := Option.some.inj ((show Tryd.prog.funcNamed "loop.example/g00954/laws.FnState" = some 3 by kernel_rfl).symm.trans hf) |>.symm
   obtain rfl:fn=Tryd.f3:=(Option.some.inj (Tryd.func3.symm.trans hfn)).symm
   exact ⟨by kernel_rfl,λj t ht=>by
    rw [Tryd.params3] at ht
    have h3:(#[22]:Array TypeId).all (λt=>Tryd.prog.wantsStandIn t==false)=true:=by kernel_rfl
    have h4:=Array.all_eq_true_iff_forall_mem.1 h3 t (Array.mem_of_getElem? ht)
    have h5:Tryd.prog.wantsStandIn t=false:=by simpa using h4
    exact h5⟩)
  (by kernel_rfl)
#print axioms proved
end Go.Proofs.YtodmafgmdlkhoaaDoor.fnState

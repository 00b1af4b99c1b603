/- The program's ReadState returns what the reference's returns, for all arguments; there is no further condition. -/
import Derived.Test.YtchpfloemfoomaaSM9
import Derived.Test.YtchpfloemfoomaaRows
import Derived.WalkKit
import Derived.ProofKit
import Derived.OpenShut
namespace Go.Proofs.Ytchpfloemfoomaa.fnExactReadState
set_option linter.all false
open Go.ChangeShapes Go.WideShapes Go.ChangeAt Go.RowKit Go.Proofs.Ytchpfloemfoomaa.Vs
set_option maxRecDepth 100000
theorem own:ownKnob Try.prog.godebug=none:=by kernel_rfl
theorem laid:laidOutB Try.prog=true:=by kernel_rfl
theorem walk:∀l,shpA Try.prog 3 [9] l→PCall Try.prog 3 l (.g (.bool true)):=by
 rintro l ⟨cs0,l0,rfl,h0,rfl⟩
 have e0:argA Try.prog 9 cs0=cs0.headD .undef:=by unfold argA;rw [Try.underlying9]
 rw [e0]
 obtain ⟨u0,rfl,w0⟩:=(of_str Try.underlying9) _ h0
 exact lawRead u0 w0
set_option maxRecDepth 100000 in
theorem lifted(os:Os)(started:os.Started)(H:Type)(enc:TypeId × Value→H) :
 ReturnsInHanded {} Try.checked os 3 .any (Rows.fnExactReadStateSpec.pre6 enc Try.prog Try.f3 Rows.fnExactReadStateRow.domain false) (Rows.fnExactReadStateSpec.post enc Try.prog Try.f3 false true false false):=by
 refine returnsInHanded_of_change (C:=Try.checked) own started (by kernel_rfl) Try.func3
  (ChangeSpec.witness6 (enc:=enc) (C:=Try.checked) false ⟨#[],#[.string ⟨#[]⟩],[]⟩ 8 (by kernel_rfl) (by kernel_rfl) (by kernel_rfl) (by kernel_rfl)) ?_
 intro W base args ds gs before hval hW hcnd _
 refine law_post (n:=3) (tb:=4) rfl laid (by kernel_rfl) ?_ rfl Try.underlying4 ?_ ?_ hval hW
 ·rw [Try.params3]
  intro t ht
  have:t=9:=by simpa using ht
  rcases this with rfl
  ·exact ⟨by kernel_rfl,of_decide_eq_true (by kernel_rfl)⟩
 ·intro ds hds
  rw [Try.params3] at hds
  match ds,hds with
  | [d0],_=>exact ⟨rfl,rfl,rfl⟩
 ·rw [Try.params3]
  exact walk
theorem over:Rows.fnExactReadStateRow.holds Try.pinned (OpenSpec.ofChange Rows.fnExactReadStateSpec) :=
 OpenClaim.holds_of_wide 3 Try.f3 rfl rfl rfl rfl rfl rfl rfl ⟨rfl,rfl,rfl,rfl,rfl⟩ rfl rfl rfl rfl rfl (by kernel_rfl) Try.func3 (by kernel_rfl)
  (of_decide_eq_true (by kernel_rfl)) (by unfold Func.isWrapper;first|(rw [if_pos (by decide +kernel)];kernel_rfl)|(rw [if_neg (by decide +kernel)];exact ⟨rfl,rfl⟩))
  (λos started H enc _=>lifted os started H enc)
theorem proved:Rows.FnExactReadStateSaid :=
 over
#print axioms proved
end Go.Proofs.Ytchpfloemfoomaa.fnExactReadState

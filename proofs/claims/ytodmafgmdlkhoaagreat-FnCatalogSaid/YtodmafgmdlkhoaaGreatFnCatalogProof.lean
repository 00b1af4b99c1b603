/- For every code of bytes the law FnCatalog of the program returns true: a catalog stays right, what is refused changes nothing, and each chunk that a snapshot names is counted. -/
import Derived.Test.YtodmafgmdlkhoaaGreatSM12
import Derived.Test.YtodmafgmdlkhoaaGreatRows
import Derived.WalkKit
import Derived.ProofKit
import Derived.OpenShut
namespace Go.Proofs.YtodmafgmdlkhoaaGreat.fnCatalog
set_option linter.all false
open Go.ChangeShapes Go.WideShapes Go.ChangeAt Go.RowKit Go.Proofs.YtodmafgmdlkhoaaGreat.Vs
set_option maxRecDepth 100000
theorem own:ownKnob Tryz.prog.godebug=none:=by kernel_rfl
theorem laid:laidOutB Tryz.prog=true:=by kernel_rfl
theorem c5:Tryz.prog.cellsOf 5=1:=by kernel_rfl
theorem walk:∀l,shpA Tryz.prog 4 [22] l→PCall Tryz.prog 4 l (.g (.bool true)):=by
 rintro l ⟨cs0,l0,rfl,h0,rfl⟩
 have e0:argA Tryz.prog 22 cs0=cs0.headD .undef:=by unfold argA;rw [Tryz.underlying22]
 rw [e0]
 obtain ⟨u0,rfl,w0⟩:=(of_row Tryz.underlying22 c5 (of_u8 Tryz.underlying5)) _ h0
 exact lawCat u0 w0
set_option maxRecDepth 100000 in
theorem lifted(os:Os)(started:os.Started)(H:Type)(enc:TypeId × Value→H) :
 ReturnsInHanded {} Tryz.checked os 4 .any (Rows.fnCatalogSpec.pre6 enc Tryz.prog Tryz.f4 Rows.fnCatalogRow.domain false) (Rows.fnCatalogSpec.post enc Tryz.prog Tryz.f4 false true false false):=by
 refine returnsInHanded_of_change (C:=Tryz.checked) own started (by kernel_rfl) Tryz.func4
  (ChangeSpec.witness6 (enc:=enc) (C:=Tryz.checked) false ⟨#[],#[.slice none 0 0],[]⟩ 8 (by kernel_rfl) (by kernel_rfl) (by kernel_rfl) (by kernel_rfl)) ?_
 intro W base args ds gs before hval hW hcnd _
 refine law_post (n:=4) (tb:=4) rfl laid (by kernel_rfl) ?_ rfl Tryz.underlying4 ?_ ?_ hval hW
 ·rw [Tryz.params4]
  intro t ht
  have:t=22:=by simpa using ht
  rcases this with rfl
  ·exact ⟨by kernel_rfl,of_decide_eq_true (by kernel_rfl)⟩
 ·intro ds hds
  rw [Tryz.params4] at hds
  match ds,hds with
  | [d0],_=>exact ⟨rfl,rfl,rfl⟩
 ·rw [Tryz.params4]
  exact walk
theorem over:Rows.fnCatalogRow.holds Tryz.pinned (OpenSpec.ofChange Rows.fnCatalogSpec) :=
 OpenClaim.holds_of_wide 4 Tryz.f4 rfl rfl rfl rfl rfl rfl rfl ⟨rfl,rfl,rfl,rfl,rfl⟩ rfl rfl rfl rfl rfl (by kernel_rfl) Tryz.func4 (by kernel_rfl)
  (of_decide_eq_true (by kernel_rfl)) (by unfold Func.isWrapper;first|(rw [if_pos (by decide +kernel)];kernel_rfl)|(rw [if_neg (by decide +kernel)];exact ⟨rfl,rfl⟩))
  (λos started H enc _=>lifted os started H enc)
theorem proved:Rows.FnCatalogSaid :=
 over
#print axioms proved
end Go.Proofs.YtodmafgmdlkhoaaGreat.fnCatalog

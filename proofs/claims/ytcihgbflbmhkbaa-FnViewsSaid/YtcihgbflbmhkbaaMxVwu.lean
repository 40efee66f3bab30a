/-
  PROVED: at every input FnViews returns true, and its arguments read as they did. No condition.
-/
import Derived.Test.YtcihgbflbmhkbaaMxVwt
set_option linter.unusedSimpArgs false
set_option linter.unusedVariables false
namespace Go.Proofs.Ytcihgbflbmhkbaa.fnViews
open Go.ChangeShapes Go.WideShapes Go.ChangeAt Go.RowKit
set_option linter.unusedVariables false
theorem over:Rows.fnViewsRow.holds Try.pinned (OpenSpec.ofChange Rows.fnViewsSpec):=
 OpenClaim.holds_of_wide 7 Try.f7 rfl rfl rfl rfl rfl rfl rfl ⟨rfl,rfl,rfl,rfl,rfl⟩ rfl rfl rfl rfl rfl (by kernel_rfl) Try.func7 closed
  (of_decide_eq_true (by kernel_rfl)) (by unfold Func.isWrapper;first|(rw[if_pos (by decide+kernel)];kernel_rfl)|(rw[if_neg (by decide+kernel)];exact⟨rfl,rfl⟩))
  (fun os started H enc _=>lifted os started H enc)
theorem proved:Rows.FnViewsSaid:=over
#print axioms proved
end Go.Proofs.Ytcihgbflbmhkbaa.fnViews

/-
  PROVED: at every input FnExactKeptOk returns true, and its arguments read as they did. No condition.
-/
import Derived.Test.YtolaaohibicllaaGreatMxKot
set_option linter.unusedSimpArgs false
set_option linter.unusedVariables false
namespace Go.Proofs.YtolaaohibicllaaGreat.fnExactKeptOk
open Go.ChangeShapes Go.WideShapes Go.ChangeAt Go.RowKit
set_option linter.unusedVariables false
theorem over:Rows.fnExactKeptOkRow.holds Tryz.pinned (OpenSpec.ofChange Rows.fnExactKeptOkSpec):=
 OpenClaim.holds_of_wide 3 Tryz.f3 rfl rfl rfl rfl rfl rfl rfl ⟨rfl,rfl,rfl,rfl,rfl⟩ rfl rfl rfl rfl rfl (by kernel_rfl) Tryz.func3 closed
  (of_decide_eq_true (by kernel_rfl)) (by unfold Func.isWrapper;first|(rw[if_pos (by decide+kernel)];kernel_rfl)|(rw[if_neg (by decide+kernel)];exact⟨rfl,rfl⟩))
  (fun os started H enc _=>lifted os started H enc)
theorem proved:Rows.FnExactKeptOkSaid:=over
#print axioms proved
end Go.Proofs.YtolaaohibicllaaGreat.fnExactKeptOk

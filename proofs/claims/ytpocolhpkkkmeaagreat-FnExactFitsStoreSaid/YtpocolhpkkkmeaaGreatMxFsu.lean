/-
  PROVED: at every input FnExactFitsStore returns true, and its arguments read as they did. No condition.
-/
import Derived.Test.YtpocolhpkkkmeaaGreatMxFst
set_option linter.unusedSimpArgs false
set_option linter.unusedVariables false
namespace Go.Proofs.YtpocolhpkkkmeaaGreat.fnExactFitsStore
open Go.ChangeShapes Go.WideShapes Go.ChangeAt Go.RowKit
set_option linter.unusedVariables false
theorem over : Rows.fnExactFitsStoreRow.holds Tryz.pinned (OpenSpec.ofChange Rows.fnExactFitsStoreSpec) :=
  OpenClaim.holds_of_wide 9 Tryz.f9 rfl rfl rfl rfl rfl rfl rfl ⟨rfl, rfl, rfl, rfl, rfl⟩ rfl rfl rfl rfl rfl (by kernel_rfl) Tryz.func9 closed
    (of_decide_eq_true (by kernel_rfl)) (by unfold Func.isWrapper; first | (rw [if_pos (by decide +kernel)]; kernel_rfl) | (rw [if_neg (by decide +kernel)]; exact ⟨rfl, rfl⟩))
    (fun os started H enc _ => lifted os started H enc)
theorem proved : Rows.FnExactFitsStoreSaid := over
#print axioms proved
end Go.Proofs.YtpocolhpkkkmeaaGreat.fnExactFitsStore

/-
  PROVED: at every input FnUidsKept returns true, and its arguments read as they did. No condition.
-/
import Derived.Test.YtpocolhpkkkmeaaGreatMxJnx
set_option linter.unusedSimpArgs false
set_option linter.unusedVariables false
namespace Go.Proofs.YtpocolhpkkkmeaaGreat.fnUidsKept
open Go.ChangeShapes Go.WideShapes Go.ChangeAt Go.RowKit
set_option linter.unusedVariables false
theorem over : Rows.fnUidsKeptRow.holds Tryz.pinned (OpenSpec.ofChange Rows.fnUidsKeptSpec) :=
  OpenClaim.holds_of_wide 6 Tryz.f6 rfl rfl rfl rfl rfl rfl rfl ⟨rfl, rfl, rfl, rfl, rfl⟩ rfl rfl rfl rfl rfl (by kernel_rfl) Tryz.func6 closed
    (of_decide_eq_true (by kernel_rfl)) (by unfold Func.isWrapper; first | (rw [if_pos (by decide +kernel)]; kernel_rfl) | (rw [if_neg (by decide +kernel)]; exact ⟨rfl, rfl⟩))
    (fun os started H enc _ => lifted os started H enc)
theorem proved : Rows.FnUidsKeptSaid := over
#print axioms proved
end Go.Proofs.YtpocolhpkkkmeaaGreat.fnUidsKept

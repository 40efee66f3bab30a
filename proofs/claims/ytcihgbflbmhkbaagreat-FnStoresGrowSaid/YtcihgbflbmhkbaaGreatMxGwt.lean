/-
  Toward the row: its closed facts.
-/
import Derived.Test.YtcihgbflbmhkbaaGreatMxGws
set_option linter.unusedSimpArgs false
set_option linter.unusedVariables false
namespace Go.Proofs.YtcihgbflbmhkbaaGreat.fnStoresGrow
open Go.ChangeShapes Go.WideShapes Go.ChangeAt Go.RowKit
set_option linter.unusedVariables false
theorem fact_inPlace : (Rows.fnStoresGrowRow.inPlace == Tryz.pinned.checked.prog.inPlace 6) = true := by kernel_rfl
theorem fact_unfollowed : (Rows.fnStoresGrowRow.unfollowed == Tryz.pinned.checked.prog.unfollowed 6) = true := by kernel_rfl
theorem fact_recurses : (Rows.fnStoresGrowRow.recurses == Tryz.pinned.checked.prog.recurses 6) = true := by kernel_rfl
theorem fact_named : (Rows.fnStoresGrowRow.named == Tryz.pinned.checked.prog.varsNamed 6) = true := by kernel_rfl
theorem closed : joinedFacts Tryz.pinned.checked.prog 6 Tryz.f6 Rows.fnStoresGrowSpec Rows.fnStoresGrowRow = true := by
  unfold joinedFacts
  rw [fact_inPlace, fact_unfollowed, fact_recurses, fact_named]
  kernel_rfl
end Go.Proofs.YtcihgbflbmhkbaaGreat.fnStoresGrow

/-
  Toward the row: its closed facts.
-/
import Derived.Test.YtcihgbflbmhkbaaMxTks
set_option linter.unusedSimpArgs false
set_option linter.unusedVariables false
namespace Go.Proofs.Ytcihgbflbmhkbaa.fnTokens
open Go.ChangeShapes Go.WideShapes Go.ChangeAt Go.RowKit
set_option linter.unusedVariables false
theorem fact_inPlace : (Rows.fnTokensRow.inPlace == Try.pinned.checked.prog.inPlace 3) = true := by kernel_rfl
theorem fact_unfollowed : (Rows.fnTokensRow.unfollowed == Try.pinned.checked.prog.unfollowed 3) = true := by kernel_rfl
theorem fact_recurses : (Rows.fnTokensRow.recurses == Try.pinned.checked.prog.recurses 3) = true := by kernel_rfl
theorem fact_named : (Rows.fnTokensRow.named == Try.pinned.checked.prog.varsNamed 3) = true := by kernel_rfl
theorem closed : joinedFacts Try.pinned.checked.prog 3 Try.f3 Rows.fnTokensSpec Rows.fnTokensRow = true := by
  unfold joinedFacts
  rw [fact_inPlace, fact_unfollowed, fact_recurses, fact_named]
  kernel_rfl
end Go.Proofs.Ytcihgbflbmhkbaa.fnTokens

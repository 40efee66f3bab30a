/-
  Toward the row: its closed facts.
-/
import Derived.Test.YtcihgbflbmhkbaaGreatMxJos
set_option linter.unusedSimpArgs false
set_option linter.unusedVariables false
namespace Go.Proofs.YtcihgbflbmhkbaaGreat.fnJournals
open Go.ChangeShapes Go.WideShapes Go.ChangeAt Go.RowKit
set_option linter.unusedVariables false
theorem fact_inPlace:(Rows.fnJournalsRow.inPlace==Tryz.pinned.checked.prog.inPlace 4)=true:=by kernel_rfl
theorem fact_unfollowed:(Rows.fnJournalsRow.unfollowed==Tryz.pinned.checked.prog.unfollowed 4)=true:=by kernel_rfl
theorem fact_recurses:(Rows.fnJournalsRow.recurses==Tryz.pinned.checked.prog.recurses 4)=true:=by kernel_rfl
theorem fact_named:(Rows.fnJournalsRow.named==Tryz.pinned.checked.prog.varsNamed 4)=true:=by kernel_rfl
theorem closed:joinedFacts Tryz.pinned.checked.prog 4 Tryz.f4 Rows.fnJournalsSpec Rows.fnJournalsRow=true:=by
 unfold joinedFacts;rw[fact_inPlace,fact_unfollowed,fact_recurses,fact_named]
 kernel_rfl
end Go.Proofs.YtcihgbflbmhkbaaGreat.fnJournals

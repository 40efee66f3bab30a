/-
  Toward the row: its closed facts.
-/
import Derived.Test.YtcihgbflbmhkbaaMxVws
set_option linter.unusedSimpArgs false
set_option linter.unusedVariables false
namespace Go.Proofs.Ytcihgbflbmhkbaa.fnViews
open Go.ChangeShapes Go.WideShapes Go.ChangeAt Go.RowKit
set_option linter.unusedVariables false
theorem fact_inPlace:(Rows.fnViewsRow.inPlace==Try.pinned.checked.prog.inPlace 7)=true:=by kernel_rfl
theorem fact_unfollowed:(Rows.fnViewsRow.unfollowed==Try.pinned.checked.prog.unfollowed 7)=true:=by kernel_rfl
theorem fact_recurses:(Rows.fnViewsRow.recurses==Try.pinned.checked.prog.recurses 7)=true:=by kernel_rfl
theorem fact_named:(Rows.fnViewsRow.named==Try.pinned.checked.prog.varsNamed 7)=true:=by kernel_rfl
theorem closed:joinedFacts Try.pinned.checked.prog 7 Try.f7 Rows.fnViewsSpec Rows.fnViewsRow=true:=by
 unfold joinedFacts;rw[fact_inPlace,fact_unfollowed,fact_recurses,fact_named]
 kernel_rfl
end Go.Proofs.Ytcihgbflbmhkbaa.fnViews

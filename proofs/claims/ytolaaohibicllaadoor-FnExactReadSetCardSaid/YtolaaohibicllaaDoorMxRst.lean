/-
  Toward the row: its closed facts.
-/
import Derived.Test.YtolaaohibicllaaDoorMxRss
set_option linter.unusedSimpArgs false
set_option linter.unusedVariables false
namespace Go.Proofs.YtolaaohibicllaaDoor.fnExactReadSet
open Go.ChangeShapes Go.WideShapes Go.ChangeAt Go.RowKit
set_option linter.unusedVariables false
theorem fact_inPlace:(Rows.fnExactReadSetRow.inPlace==Tryd.pinned.checked.prog.inPlace 3)=true:=by kernel_rfl
theorem fact_unfollowed:(Rows.fnExactReadSetRow.unfollowed==Tryd.pinned.checked.prog.unfollowed 3)=true:=by kernel_rfl
theorem fact_recurses:(Rows.fnExactReadSetRow.recurses==Tryd.pinned.checked.prog.recurses 3)=true:=by kernel_rfl
theorem fact_named:(Rows.fnExactReadSetRow.named==Tryd.pinned.checked.prog.varsNamed 3)=true:=by kernel_rfl
theorem closed:joinedFacts Tryd.pinned.checked.prog 3 Tryd.f3 Rows.fnExactReadSetSpec Rows.fnExactReadSetRow=true:=by
 unfold joinedFacts;rw[fact_inPlace,fact_unfollowed,fact_recurses,fact_named]
 kernel_rfl
end Go.Proofs.YtolaaohibicllaaDoor.fnExactReadSet

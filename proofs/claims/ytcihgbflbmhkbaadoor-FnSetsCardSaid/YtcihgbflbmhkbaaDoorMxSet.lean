/-
  Toward the row: its closed facts.
-/
import Derived.Test.YtcihgbflbmhkbaaDoorMxSes
set_option linter.unusedSimpArgs false
set_option linter.unusedVariables false
namespace Go.Proofs.YtcihgbflbmhkbaaDoor.fnSets
open Go.ChangeShapes Go.WideShapes Go.ChangeAt Go.RowKit
set_option linter.unusedVariables false
theorem fact_inPlace:(Rows.fnSetsRow.inPlace==Tryd.pinned.checked.prog.inPlace 3)=true:=by kernel_rfl
theorem fact_unfollowed:(Rows.fnSetsRow.unfollowed==Tryd.pinned.checked.prog.unfollowed 3)=true:=by kernel_rfl
theorem fact_recurses:(Rows.fnSetsRow.recurses==Tryd.pinned.checked.prog.recurses 3)=true:=by kernel_rfl
theorem fact_named:(Rows.fnSetsRow.named==Tryd.pinned.checked.prog.varsNamed 3)=true:=by kernel_rfl
theorem closed:joinedFacts Tryd.pinned.checked.prog 3 Tryd.f3 Rows.fnSetsSpec Rows.fnSetsRow=true:=by
 unfold joinedFacts;rw[fact_inPlace,fact_unfollowed,fact_recurses,fact_named]
 kernel_rfl
end Go.Proofs.YtcihgbflbmhkbaaDoor.fnSets

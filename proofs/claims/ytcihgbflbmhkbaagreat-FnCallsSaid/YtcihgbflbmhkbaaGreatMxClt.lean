/-
  Toward the row: its closed facts.
-/
import Derived.Test.YtcihgbflbmhkbaaGreatMxCls
set_option linter.unusedSimpArgs false
set_option linter.unusedVariables false
namespace Go.Proofs.YtcihgbflbmhkbaaGreat.fnCalls
open Go.ChangeShapes Go.WideShapes Go.ChangeAt Go.RowKit
set_option linter.unusedVariables false
theorem fact_inPlace:(Rows.fnCallsRow.inPlace==Tryz.pinned.checked.prog.inPlace 8)=true:=by kernel_rfl
theorem fact_unfollowed:(Rows.fnCallsRow.unfollowed==Tryz.pinned.checked.prog.unfollowed 8)=true:=by kernel_rfl
theorem fact_recurses:(Rows.fnCallsRow.recurses==Tryz.pinned.checked.prog.recurses 8)=true:=by kernel_rfl
theorem fact_named:(Rows.fnCallsRow.named==Tryz.pinned.checked.prog.varsNamed 8)=true:=by kernel_rfl
theorem closed:joinedFacts Tryz.pinned.checked.prog 8 Tryz.f8 Rows.fnCallsSpec Rows.fnCallsRow=true:=by
 unfold joinedFacts;rw[fact_inPlace,fact_unfollowed,fact_recurses,fact_named]
 kernel_rfl
end Go.Proofs.YtcihgbflbmhkbaaGreat.fnCalls

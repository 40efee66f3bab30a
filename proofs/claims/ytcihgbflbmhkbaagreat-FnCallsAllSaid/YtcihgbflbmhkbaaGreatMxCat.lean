/-
  Toward the row: its closed facts.
-/
import Derived.Test.YtcihgbflbmhkbaaGreatMxCas
set_option linter.unusedSimpArgs false
set_option linter.unusedVariables false
namespace Go.Proofs.YtcihgbflbmhkbaaGreat.fnCallsAll
open Go.ChangeShapes Go.WideShapes Go.ChangeAt Go.RowKit
set_option linter.unusedVariables false
theorem fact_inPlace:(Rows.fnCallsAllRow.inPlace==Tryz.pinned.checked.prog.inPlace 7)=true:=by kernel_rfl
theorem fact_unfollowed:(Rows.fnCallsAllRow.unfollowed==Tryz.pinned.checked.prog.unfollowed 7)=true:=by kernel_rfl
theorem fact_recurses:(Rows.fnCallsAllRow.recurses==Tryz.pinned.checked.prog.recurses 7)=true:=by kernel_rfl
theorem fact_named:(Rows.fnCallsAllRow.named==Tryz.pinned.checked.prog.varsNamed 7)=true:=by kernel_rfl
theorem closed:joinedFacts Tryz.pinned.checked.prog 7 Tryz.f7 Rows.fnCallsAllSpec Rows.fnCallsAllRow=true:=by
 unfold joinedFacts;rw[fact_inPlace,fact_unfollowed,fact_recurses,fact_named]
 kernel_rfl
end Go.Proofs.YtcihgbflbmhkbaaGreat.fnCallsAll

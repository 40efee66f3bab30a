/-
  Toward the row: what the small machine answers is lifted to the model.
-/
import Derived.Test.YtcihgbflbmhkbaaMxTkr
set_option linter.unusedSimpArgs false
set_option linter.unusedVariables false
namespace Go.Proofs.Ytcihgbflbmhkbaa.fnTokens
open Go.ChangeShapes Go.WideShapes Go.ChangeAt Go.RowKit
set_option linter.unusedVariables false
theorem own : ownKnob Try.prog.godebug = none := by kernel_rfl
set_option maxRecDepth 100000 in
theorem lifted (os : Os) (started : os.Started) (H : Type) (enc : TypeId × Value → H) :
    ReturnsInHanded {} Try.checked os 3 .any (Rows.fnTokensSpec.pre6 enc Try.prog Try.f3 Rows.fnTokensRow.domain false) (Rows.fnTokensSpec.post enc Try.prog Try.f3 false true false false) := by
  refine Mx.lift_rowS (C := Try.checked) (F := F) (M := M) (fn := Try.f3) (rt := 4) table 521 60 [.cell (.sl [.int .u8])] own started (by kernel_rfl) Try.func3
    (ChangeSpec.witness6 (enc := enc) (C := Try.checked) false ⟨#[], #[.slice none 0 0], []⟩ 12 (by kernel_rfl) (by kernel_rfl) (by kernel_rfl) (by kernel_rfl))
    (by kernel_rfl) (by kernel_rfl) (by rfl) (by kernel_rfl) rfl (fun ds h => ?_) (fun xs h => ?_) hglob
  · match ds, h with
    | [d0], _ => rfl
  · have k := k521
    exact Mx.laws_FnTokens.row k h
end Go.Proofs.Ytcihgbflbmhkbaa.fnTokens

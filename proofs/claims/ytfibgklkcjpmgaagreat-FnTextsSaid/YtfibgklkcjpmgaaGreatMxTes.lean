/-
  Toward the row: what the small machine answers is lifted to the model.
-/
import Derived.Test.YtfibgklkcjpmgaaGreatMxTer
set_option linter.unusedSimpArgs false
set_option linter.unusedVariables false
namespace Go.Proofs.YtfibgklkcjpmgaaGreat.fnTexts
open Go.ChangeShapes Go.WideShapes Go.ChangeAt Go.RowKit
set_option linter.unusedVariables false
theorem own : ownKnob Tryz.prog.godebug = none := by kernel_rfl
set_option maxRecDepth 100000 in
theorem lifted (os : Os) (started : os.Started) (H : Type) (enc : TypeId × Value → H) :
    ReturnsInHanded {} Tryz.checked os 3 .any (Rows.fnTextsSpec.pre6 enc Tryz.prog Tryz.f3 Rows.fnTextsRow.domain false) (Rows.fnTextsSpec.post enc Tryz.prog Tryz.f3 false true false false) := by
  refine Mx.lift_row (C := Tryz.checked) (F := F) (M := M) (fn := Tryz.f3) (rt := 4) table 396 60 [.cell (.sl [.int .u8])] own started (by kernel_rfl) Tryz.func3
    (ChangeSpec.witness6 (enc := enc) (C := Tryz.checked) false ⟨#[], #[.slice none 0 0], []⟩ 12 (by kernel_rfl) (by kernel_rfl) (by kernel_rfl) (by kernel_rfl))
    (by kernel_rfl) (by kernel_rfl) (by rfl) (by kernel_rfl) rfl (fun ds h => ?_) (fun xs h => ?_)
  · match ds, h with
    | [d0], _ => rfl
  · have k := k396
    exact Mx.laws_FnTexts.row k h
end Go.Proofs.YtfibgklkcjpmgaaGreat.fnTexts

/-
  Toward the row: what the small machine answers is lifted to the model.
-/
import Derived.Test.YtpocolhpkkkmeaaGreatMxFsr
set_option linter.unusedSimpArgs false
set_option linter.unusedVariables false
namespace Go.Proofs.YtpocolhpkkkmeaaGreat.fnExactFitsStore
open Go.ChangeShapes Go.WideShapes Go.ChangeAt Go.RowKit
set_option linter.unusedVariables false
theorem own : ownKnob Tryz.prog.godebug = none := by kernel_rfl
set_option maxRecDepth 100000 in
theorem lifted (os : Os) (started : os.Started) (H : Type) (enc : TypeId × Value → H) :
    ReturnsInHanded {} Tryz.checked os 9 .any (Rows.fnExactFitsStoreSpec.pre6 enc Tryz.prog Tryz.f9 Rows.fnExactFitsStoreRow.domain false) (Rows.fnExactFitsStoreSpec.post enc Tryz.prog Tryz.f9 false true false false) := by
  refine Mx.lift_row (C := Tryz.checked) (F := F) (M := M) (fn := Tryz.f9) (rt := 4) table 398 60 [.struct Mx.ctStore, .struct Mx.ctStore] own started (by kernel_rfl) Tryz.func9
    (ChangeSpec.witness6 (enc := enc) (C := Tryz.checked) false ⟨#[], #[.agg #[.int .i64 1, .int .i64 0, .slice none 0 0, .slice none 0 0], .agg #[.int .i64 1, .int .i64 0, .slice none 0 0, .slice none 0 0]], []⟩ 12 (by kernel_rfl) (by kernel_rfl) (by kernel_rfl) (by kernel_rfl))
    (by kernel_rfl) (by kernel_rfl) (by rfl) (by kernel_rfl) rfl (fun ds h => ?_) (fun xs h => ?_)
  · match ds, h with
    | [d0, d1], _ => rfl
  · have k := k398
    exact Mx.laws_FnExactFitsStore.row k h
end Go.Proofs.YtpocolhpkkkmeaaGreat.fnExactFitsStore

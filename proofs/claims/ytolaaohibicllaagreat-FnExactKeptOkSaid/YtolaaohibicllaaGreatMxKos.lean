/-
  Toward the row: what the small machine answers is lifted to the model.
-/
import Derived.Test.YtolaaohibicllaaGreatMxKor
set_option linter.unusedSimpArgs false
set_option linter.unusedVariables false
namespace Go.Proofs.YtolaaohibicllaaGreat.fnExactKeptOk
open Go.ChangeShapes Go.WideShapes Go.ChangeAt Go.RowKit
set_option linter.unusedVariables false
theorem own:ownKnob Tryz.prog.godebug=none:=by kernel_rfl
set_option maxRecDepth 100000 in
theorem lifted(os:Os)(started:os.Started)(H:Type)(enc:TypeId×Value→H):
  ReturnsInHanded {} Tryz.checked os 3 .any (Rows.fnExactKeptOkSpec.pre6 enc Tryz.prog Tryz.f3 Rows.fnExactKeptOkRow.domain false) (Rows.fnExactKeptOkSpec.post enc Tryz.prog Tryz.f3 false true false false):=by
 refine Mx.FC (C:=Tryz.checked) (F:=F) (M:=M) (fn:=Tryz.f3) (rt:=4) table 399 60 [.struct Mx.Ch] own started (by kernel_rfl) Tryz.func3
  (ChangeSpec.witness6 (enc:=enc) (C:=Tryz.checked) false ⟨#[],#[.agg #[.int .i64 0,.int .i64 0,.slice none 0 0,.slice none 0 0,.string ByteArray.empty,.int .i64 0]],[]⟩ 12 (by kernel_rfl) (by kernel_rfl) (by kernel_rfl) (by kernel_rfl))
  (by kernel_rfl) (by kernel_rfl) (by rfl) (by kernel_rfl) rfl (fun ds h=> ?_) (fun xs h=> ?_)
 ·match ds,h with
  |[d0],_=>rfl
 ·have k:=k399;exact Mx.cH.row k h
end Go.Proofs.YtolaaohibicllaaGreat.fnExactKeptOk

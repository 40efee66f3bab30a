/-
  Toward the row: what the small machine answers is lifted to the model.
-/
import Derived.Test.YtcihgbflbmhkbaaMxVwr
set_option linter.unusedSimpArgs false
set_option linter.unusedVariables false
namespace Go.Proofs.Ytcihgbflbmhkbaa.fnViews
open Go.ChangeShapes Go.WideShapes Go.ChangeAt Go.RowKit
set_option linter.unusedVariables false
theorem own:ownKnob Try.prog.godebug=none:=by kernel_rfl
set_option maxRecDepth 100000 in
theorem lifted(os:Os)(started:os.Started)(H:Type)(enc:TypeId×Value→H):
  ReturnsInHanded {} Try.checked os 7 .any (Rows.fnViewsSpec.pre6 enc Try.prog Try.f7 Rows.fnViewsRow.domain false) (Rows.fnViewsSpec.post enc Try.prog Try.f7 false true false false):=by
 refine Mx.w9 (C:=Try.checked) (F:=F) (M:=M) (fn:=Try.f7) (rt:=4) table 525 60 [.cell (.sl [.int .u8])] own started (by kernel_rfl) Try.func7
  (ChangeSpec.witness6 (enc:=enc) (C:=Try.checked) false ⟨#[],#[.slice none 0 0],[]⟩ 12 (by kernel_rfl) (by kernel_rfl) (by kernel_rfl) (by kernel_rfl))
  (by kernel_rfl) (by kernel_rfl) (by rfl) (by kernel_rfl) rfl (fun ds h=> ?_) (fun xs h=> ?_)
 ·match ds,h with
  |[d0],_=>rfl
 ·have k:=k525;exact Mx.cI.row k h
end Go.Proofs.Ytcihgbflbmhkbaa.fnViews

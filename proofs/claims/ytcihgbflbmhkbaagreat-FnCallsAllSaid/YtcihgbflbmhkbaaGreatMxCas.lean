/-
  Toward the row: what the small machine answers is lifted to the model.
-/
import Derived.Test.YtcihgbflbmhkbaaGreatMxCar
set_option linter.unusedSimpArgs false
set_option linter.unusedVariables false
namespace Go.Proofs.YtcihgbflbmhkbaaGreat.fnCallsAll
open Go.ChangeShapes Go.WideShapes Go.ChangeAt Go.RowKit
set_option linter.unusedVariables false
theorem own:ownKnob Tryz.prog.godebug=none:=by kernel_rfl
set_option maxRecDepth 100000 in
theorem lifted(os:Os)(started:os.Started)(H:Type)(enc:TypeId×Value→H):
  ReturnsInHanded {} Tryz.checked os 7 .any (Rows.fnCallsAllSpec.pre6 enc Tryz.prog Tryz.f7 Rows.fnCallsAllRow.domain false) (Rows.fnCallsAllSpec.post enc Tryz.prog Tryz.f7 false true false false):=by
 refine Mx.Em (C:=Tryz.checked) (F:=F) (M:=M) (fn:=Tryz.f7) (rt:=4) table 501 60 [.cell (.sl [.int .u8])] own started (by kernel_rfl) Tryz.func7
  (ChangeSpec.witness6 (enc:=enc) (C:=Tryz.checked) false ⟨#[],#[.slice none 0 0],[]⟩ 12 (by kernel_rfl) (by kernel_rfl) (by kernel_rfl) (by kernel_rfl))
  (by kernel_rfl) (by kernel_rfl) (by rfl) (by kernel_rfl) rfl (fun ds h=> ?_) (fun xs h=> ?_)
 ·match ds,h with
  |[d0],_=>rfl
 ·have k:=k501;exact Mx.bY.row k h
end Go.Proofs.YtcihgbflbmhkbaaGreat.fnCallsAll

/-
  Toward the row: what the small machine answers is lifted to the model.
-/
import Derived.Test.YtcihgbflbmhkbaaGreatMxJor
set_option linter.unusedSimpArgs false
set_option linter.unusedVariables false
namespace Go.Proofs.YtcihgbflbmhkbaaGreat.fnJournals
open Go.ChangeShapes Go.WideShapes Go.ChangeAt Go.RowKit
set_option linter.unusedVariables false
theorem own:ownKnob Tryz.prog.godebug=none:=by kernel_rfl
set_option maxRecDepth 100000 in
theorem lifted(os:Os)(started:os.Started)(H:Type)(enc:TypeId×Value→H):
  ReturnsInHanded {} Tryz.checked os 4 .any (Rows.fnJournalsSpec.pre6 enc Tryz.prog Tryz.f4 Rows.fnJournalsRow.domain false) (Rows.fnJournalsSpec.post enc Tryz.prog Tryz.f4 false true false false):=by
 refine Mx.Gx (C:=Tryz.checked) (F:=F) (M:=M) (fn:=Tryz.f4) (rt:=4) table 498 60 [.cell (.sl [.int .u8])] own started (by kernel_rfl) Tryz.func4
  (ChangeSpec.witness6 (enc:=enc) (C:=Tryz.checked) false ⟨#[],#[.slice none 0 0],[]⟩ 12 (by kernel_rfl) (by kernel_rfl) (by kernel_rfl) (by kernel_rfl))
  (by kernel_rfl) (by kernel_rfl) (by rfl) (by kernel_rfl) rfl (fun ds h=> ?_) (fun xs h=> ?_)
 ·match ds,h with
  |[d0],_=>rfl
 ·have k:=k498;exact Mx.eM.row k h
end Go.Proofs.YtcihgbflbmhkbaaGreat.fnJournals

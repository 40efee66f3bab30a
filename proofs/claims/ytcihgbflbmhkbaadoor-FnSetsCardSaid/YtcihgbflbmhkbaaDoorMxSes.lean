/-
  Toward the row: what the small machine answers is lifted to the model.
-/
import Derived.Test.YtcihgbflbmhkbaaDoorMxSer
set_option linter.unusedSimpArgs false
set_option linter.unusedVariables false
namespace Go.Proofs.YtcihgbflbmhkbaaDoor.fnSets
open Go.ChangeShapes Go.WideShapes Go.ChangeAt Go.RowKit
set_option linter.unusedVariables false
theorem own:ownKnob Tryd.prog.godebug=none:=by kernel_rfl
set_option maxRecDepth 100000 in
theorem lifted(os:Os)(started:os.Started)(H:Type)(enc:TypeId×Value→H):
  ReturnsInHanded {} Tryd.checked os 3 .any (fun w args=>(Rows.fnSetsSpec.pre enc Tryd.prog Tryd.f3 Rows.fnSetsRow.domain false w args∧laidMetH Tryd.prog Rows.fnSetsRow.laid w)∧sizedMet enc Tryd.prog Tryd.f3 (OpenSpec.ofChange Rows.fnSetsSpec) false w args) (Rows.fnSetsSpec.post enc Tryd.prog Tryd.f3 false true false false):=by
 refine Mx.m_ (C:=Tryd.checked) (X:=fun w _=>laidMetH Tryd.prog Rows.fnSetsRow.laid w) (F:=F) (M:=M) (fn:=Tryd.f3) (rt:=4) table 527 60 [.cell (.sl [.int .u8])] own started (by kernel_rfl) Tryd.func3
  (ChangeSpec.witness_shaped (enc:=enc) (C:=Tryd.checked) (os:=os) (X:=fun w _=>laidMetH Tryd.prog Rows.fnSetsRow.laid w) false (World.laidAll Tryd.prog os Rows.fnSetsRow.laid) #[.slice none 0 0] 12 (World.laidAll_os _ _ _)
   (World.shaped_of_ZipB (by kernel_rfl) (by kernel_rfl)) (by kernel_rfl) (by kernel_rfl) (by kernel_rfl)
   (by rw[MakeChecks.laidMetH_plain _ _ _ (by kernel_rfl)];exact laidMet_laidAll _ (by kernel_rfl) (by kernel_rfl)))
  (by kernel_rfl) (by kernel_rfl) (by rfl) (by kernel_rfl) rfl (fun ds h=> ?_) (fun xs h=> ?_) hglob
 ·match ds,h with
  |[d0],_=>rfl
 ·have k:=k527;exact Mx.aC.row k h
end Go.Proofs.YtcihgbflbmhkbaaDoor.fnSets

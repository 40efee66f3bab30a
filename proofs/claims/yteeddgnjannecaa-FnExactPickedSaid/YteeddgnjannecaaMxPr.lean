/-
  PROVED: at every input FnExactPicked returns true, and its arguments read as they did. No condition.
-/
import Derived.Test.YteeddgnjannecaaRows
import Derived.Test.YteeddgnjannecaaMxP
namespace Go.Proofs.Yteeddgnjannecaa.fnExactPicked
open Go.ChangeShapes Go.WideShapes Go.ChangeAt Go.RowKit
set_option linter.unusedVariables false
def num : List (Nat × Nat) := [(333, 17), (346, 38), (334, 19), (347, 40), (336, 21), (327, 18), (323, 32), (101, 39), (335, 20), (344, 33), (45, 34), (345, 35), (46, 36), (47, 37), (356, 9)]
def tab : List (Nat × Mx.Fn) := [(333, Mx.laws_szRangeS.m), (346, Mx.laws_toRange.m), (334, Mx.laws_toRangeS.m), (347, Mx.laws_eqRange.m), (336, Mx.laws_eqRangeS.m), (327, Mx.spec_InSet.m), (323, Mx.spec_Picked.m), (101, Mx.impl_within.m), (335, Mx.impl_InSet.m), (344, Mx.impl_Picked.m), (45, Mx.laws_eqIntS.m), (345, Mx.laws_markRangeS.m), (46, Mx.laws_markIntS.m), (47, Mx.laws_heldIntS.m), (356, Mx.laws_FnExactPicked.m)]
def F : Nat → FuncId := Mx.tabF num
def M : Nat → Option Mx.Body := Mx.tabM tab
theorem ok333 : Mx.okFunc Try.prog F 333 Mx.laws_szRangeS.m = true := by kernel_rfl
theorem ok346 : Mx.okFunc Try.prog F 346 Mx.laws_toRange.m = true := by kernel_rfl
theorem ok334 : Mx.okFunc Try.prog F 334 Mx.laws_toRangeS.m = true := by kernel_rfl
theorem ok347 : Mx.okFunc Try.prog F 347 Mx.laws_eqRange.m = true := by kernel_rfl
theorem ok336 : Mx.okFunc Try.prog F 336 Mx.laws_eqRangeS.m = true := by kernel_rfl
theorem ok327 : Mx.okFunc Try.prog F 327 Mx.spec_InSet.m = true := by kernel_rfl
theorem ok323 : Mx.okFunc Try.prog F 323 Mx.spec_Picked.m = true := by kernel_rfl
theorem ok101 : Mx.okFunc Try.prog F 101 Mx.impl_within.m = true := by kernel_rfl
theorem ok335 : Mx.okFunc Try.prog F 335 Mx.impl_InSet.m = true := by kernel_rfl
theorem ok344 : Mx.okFunc Try.prog F 344 Mx.impl_Picked.m = true := by kernel_rfl
theorem ok45 : Mx.okFunc Try.prog F 45 Mx.laws_eqIntS.m = true := by kernel_rfl
theorem ok345 : Mx.okFunc Try.prog F 345 Mx.laws_markRangeS.m = true := by kernel_rfl
theorem ok46 : Mx.okFunc Try.prog F 46 Mx.laws_markIntS.m = true := by kernel_rfl
theorem ok47 : Mx.okFunc Try.prog F 47 Mx.laws_heldIntS.m = true := by kernel_rfl
theorem ok356 : Mx.okFunc Try.prog F 356 Mx.laws_FnExactPicked.m = true := by kernel_rfl
theorem table : Mx.TableOk Try.prog F M := by
  refine Mx.table_list ?_
  · simp only [tab, List.forall_mem_cons]
    exact ⟨ok333, ok346, ok334, ok347, ok336, ok327, ok323, ok101, ok335, ok344, ok45, ok345, ok46, ok47, ok356, by simp⟩
theorem k333 : Mx.laws_szRangeS.k M := rfl
theorem k346 : Mx.laws_toRange.k M := rfl
theorem k334 : Mx.laws_toRangeS.k M := ⟨rfl, k346⟩
theorem k347 : Mx.laws_eqRange.k M := rfl
theorem k336 : Mx.laws_eqRangeS.k M := ⟨rfl, k347⟩
theorem k327 : Mx.spec_InSet.k M := rfl
theorem k323 : Mx.spec_Picked.k M := ⟨rfl, k327⟩
theorem k101 : Mx.impl_within.k M := rfl
theorem k335 : Mx.impl_InSet.k M := ⟨rfl, k101⟩
theorem k344 : Mx.impl_Picked.k M := ⟨rfl, k335⟩
theorem k45 : Mx.laws_eqIntS.k M := rfl
theorem k345 : Mx.laws_markRangeS.k M := rfl
theorem k46 : Mx.laws_markIntS.k M := rfl
theorem k47 : Mx.laws_heldIntS.k M := rfl
theorem k356 : Mx.laws_FnExactPicked.k M := ⟨rfl, k45, k46, k47, k323, k333, k334, k336, k344, k345⟩

theorem own : ownKnob Try.prog.godebug = none := by kernel_rfl
set_option maxRecDepth 100000 in
theorem lifted (os : Os) (started : os.Started) (H : Type) (enc : TypeId × Value → H) :
    ReturnsInHanded {} Try.checked os 9 .any (Rows.fnExactPickedSpec.pre6 enc Try.prog Try.f9 Rows.fnExactPickedRow.domain false) (Rows.fnExactPickedSpec.post enc Try.prog Try.f9 false true false false) := by
  refine Mx.lift_row (C := Try.checked) (F := F) (M := M) (fn := Try.f9) (rt := 4) table 356 60 [.cell (.sl [.int .i64, .int .i64]), .cell (.int .i64)] own started (by kernel_rfl) Try.func9
    (ChangeSpec.witness6 (enc := enc) (C := Try.checked) false ⟨#[], #[.slice none 0 0, .int .i64 1], []⟩ 12 (by kernel_rfl) (by kernel_rfl) (by kernel_rfl) (by kernel_rfl))
    (by kernel_rfl) (by kernel_rfl) (by rfl) (by kernel_rfl) rfl (fun ds h => ?_) (fun xs h => ?_)
  · match ds, h with
    | [d0, d1], _ => rfl
  · have k := k356
    exact Mx.laws_FnExactPicked.row k h
theorem over : Rows.fnExactPickedRow.holds Try.pinned (OpenSpec.ofChange Rows.fnExactPickedSpec) :=
  OpenClaim.holds_of_wide 9 Try.f9 rfl rfl rfl rfl rfl rfl rfl ⟨rfl, rfl, rfl, rfl, rfl⟩ rfl rfl rfl rfl rfl (by kernel_rfl) Try.func9 (by kernel_rfl)
    (of_decide_eq_true (by kernel_rfl)) (by unfold Func.isWrapper; first | (rw [if_pos (by decide +kernel)]; kernel_rfl) | (rw [if_neg (by decide +kernel)]; exact ⟨rfl, rfl⟩))
    (fun os started H enc _ => lifted os started H enc)
theorem proved : Rows.FnExactPickedSaid := over
#print axioms proved
end Go.Proofs.Yteeddgnjannecaa.fnExactPicked

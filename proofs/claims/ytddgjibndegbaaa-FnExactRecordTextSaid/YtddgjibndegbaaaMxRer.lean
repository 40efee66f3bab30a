/-
  PROVED: at every input FnExactRecordText returns true, and its arguments read as they did. No condition.
-/
import Derived.Test.YtddgjibndegbaaaRows
import Derived.Test.YtddgjibndegbaaaMxRe
namespace Go.Proofs.Ytddgjibndegbaaa.fnExactRecordText
open Go.ChangeShapes Go.WideShapes Go.ChangeAt Go.RowKit
set_option linter.unusedVariables false
def num : List (Nat × Nat) := [(98, 55), (202, 102), (248, 139), (201, 103), (100, 56), (99, 57), (10, 14), (101, 58), (204, 104), (249, 140), (203, 105), (103, 59), (230, 138), (205, 106), (102, 60), (11, 15), (363, 3)]
def tab : List (Nat × Mx.Fn) := [(98, Mx.spec_l01In.m), (202, Mx.spec_l02Four.m), (248, Mx.spec_SumMore.m), (201, Mx.spec_SumOf.m), (100, Mx.spec_Sealed.m), (99, Mx.spec_l01Var.m), (10, Mx.spec_RecordText.m), (101, Mx.impl_within.m), (204, Mx.impl_four.m), (249, Mx.impl_SumMore.m), (203, Mx.impl_SumOf.m), (103, Mx.impl_Sealed.m), (230, Mx.impl_VarText.m), (205, Mx.impl_ShortText.m), (102, Mx.impl_short.m), (11, Mx.impl_RecordText.m), (363, Mx.laws_FnExactRecordText.m)]
def F : Nat → FuncId := Mx.tabF num
def M : Nat → Option Mx.Body := Mx.tabM tab
theorem ok98 : Mx.okFunc Try.prog F 98 Mx.spec_l01In.m = true := by kernel_rfl
theorem ok202 : Mx.okFunc Try.prog F 202 Mx.spec_l02Four.m = true := by kernel_rfl
theorem ok248 : Mx.okFunc Try.prog F 248 Mx.spec_SumMore.m = true := by kernel_rfl
theorem ok201 : Mx.okFunc Try.prog F 201 Mx.spec_SumOf.m = true := by kernel_rfl
theorem ok100 : Mx.okFunc Try.prog F 100 Mx.spec_Sealed.m = true := by kernel_rfl
theorem ok99 : Mx.okFunc Try.prog F 99 Mx.spec_l01Var.m = true := by kernel_rfl
theorem ok10 : Mx.okFunc Try.prog F 10 Mx.spec_RecordText.m = true := by kernel_rfl
theorem ok101 : Mx.okFunc Try.prog F 101 Mx.impl_within.m = true := by kernel_rfl
theorem ok204 : Mx.okFunc Try.prog F 204 Mx.impl_four.m = true := by kernel_rfl
theorem ok249 : Mx.okFunc Try.prog F 249 Mx.impl_SumMore.m = true := by kernel_rfl
theorem ok203 : Mx.okFunc Try.prog F 203 Mx.impl_SumOf.m = true := by kernel_rfl
theorem ok103 : Mx.okFunc Try.prog F 103 Mx.impl_Sealed.m = true := by kernel_rfl
theorem ok230 : Mx.okFunc Try.prog F 230 Mx.impl_VarText.m = true := by kernel_rfl
theorem ok205 : Mx.okFunc Try.prog F 205 Mx.impl_ShortText.m = true := by kernel_rfl
theorem ok102 : Mx.okFunc Try.prog F 102 Mx.impl_short.m = true := by kernel_rfl
theorem ok11 : Mx.okFunc Try.prog F 11 Mx.impl_RecordText.m = true := by kernel_rfl
theorem ok363 : Mx.okFunc Try.prog F 363 Mx.laws_FnExactRecordText.m = true := by kernel_rfl
theorem table : Mx.TableOk Try.prog F M := by
  refine Mx.table_list ?_
  · simp only [tab, List.forall_mem_cons]
    exact ⟨ok98, ok202, ok248, ok201, ok100, ok99, ok10, ok101, ok204, ok249, ok203, ok103, ok230, ok205, ok102, ok11, ok363, by simp⟩
theorem k98 : Mx.spec_l01In.k M := rfl
theorem k202 : Mx.spec_l02Four.k M := rfl
theorem k248 : Mx.spec_SumMore.k M := rfl
theorem k201 : Mx.spec_SumOf.k M := ⟨rfl, k248⟩
theorem k100 : Mx.spec_Sealed.k M := ⟨rfl, k201, k202⟩
theorem k99 : Mx.spec_l01Var.k M := rfl
theorem k10 : Mx.spec_RecordText.k M := ⟨rfl, k98, k99, k100⟩
theorem k101 : Mx.impl_within.k M := rfl
theorem k204 : Mx.impl_four.k M := rfl
theorem k249 : Mx.impl_SumMore.k M := rfl
theorem k203 : Mx.impl_SumOf.k M := ⟨rfl, k249⟩
theorem k103 : Mx.impl_Sealed.k M := ⟨rfl, k203, k204⟩
theorem k230 : Mx.impl_VarText.k M := ⟨rfl, k101⟩
theorem k205 : Mx.impl_ShortText.k M := ⟨rfl, k230⟩
theorem k102 : Mx.impl_short.k M := ⟨rfl, k205⟩
theorem k11 : Mx.impl_RecordText.k M := ⟨rfl, k101, k102, k103⟩
theorem k363 : Mx.laws_FnExactRecordText.k M := ⟨rfl, k10, k11⟩

theorem own : ownKnob Try.prog.godebug = none := by kernel_rfl
set_option maxRecDepth 100000 in
theorem lifted (os : Os) (started : os.Started) (H : Type) (enc : TypeId × Value → H) :
    ReturnsInHanded {} Try.checked os 3 .any (Rows.fnExactRecordTextSpec.pre6 enc Try.prog Try.f3 Rows.fnExactRecordTextRow.domain false) (Rows.fnExactRecordTextSpec.post enc Try.prog Try.f3 false true false false) := by
  refine Mx.lift_row (C := Try.checked) (F := F) (M := M) (fn := Try.f3) (rt := 4) table 363 60 [.cell .str] own started (by kernel_rfl) Try.func3
    (ChangeSpec.witness6 (enc := enc) (C := Try.checked) false ⟨#[], #[.string ByteArray.empty], []⟩ 12 (by kernel_rfl) (by kernel_rfl) (by kernel_rfl) (by kernel_rfl))
    (by kernel_rfl) (by kernel_rfl) (by rfl) (by kernel_rfl) rfl (fun ds h => ?_) (fun xs h => ?_)
  · match ds, h with
    | [d0], _ => rfl
  · have k := k363
    exact Mx.laws_FnExactRecordText.row k h
theorem over : Rows.fnExactRecordTextRow.holds Try.pinned (OpenSpec.ofChange Rows.fnExactRecordTextSpec) :=
  OpenClaim.holds_of_wide 3 Try.f3 rfl rfl rfl rfl rfl rfl rfl ⟨rfl, rfl, rfl, rfl, rfl⟩ rfl rfl rfl rfl rfl (by kernel_rfl) Try.func3 (by kernel_rfl)
    (of_decide_eq_true (by kernel_rfl)) (by unfold Func.isWrapper; first | (rw [if_pos (by decide +kernel)]; kernel_rfl) | (rw [if_neg (by decide +kernel)]; exact ⟨rfl, rfl⟩))
    (fun os started H enc _ => lifted os started H enc)
theorem proved : Rows.FnExactRecordTextSaid := over
#print axioms proved
end Go.Proofs.Ytddgjibndegbaaa.fnExactRecordText

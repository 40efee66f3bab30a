/-
  PROVED: at every input FnExactReadRecords returns true, and its arguments read as they did. No condition.
-/
import Derived.Test.YtddgjibndegbaaaRows
import Derived.Test.YtddgjibndegbaaaMxRr
namespace Go.Proofs.Ytddgjibndegbaaa.fnExactReadRecords
open Go.ChangeShapes Go.WideShapes Go.ChangeAt Go.RowKit
set_option linter.unusedVariables false
def num : List (Nat × Nat) := [(98, 55), (202, 102), (248, 139), (201, 103), (100, 56), (99, 57), (10, 14), (221, 136), (206, 107), (104, 61), (12, 16), (101, 58), (230, 138), (231, 137), (207, 108), (249, 140), (203, 105), (236, 141), (168, 109), (105, 62), (13, 17), (14, 18), (106, 63), (15, 19), (16, 20), (364, 4)]
def tab : List (Nat × Mx.Fn) := [(98, Mx.spec_l01In.m), (202, Mx.spec_l02Four.m), (248, Mx.spec_SumMore.m), (201, Mx.spec_SumOf.m), (100, Mx.spec_Sealed.m), (99, Mx.spec_l01Var.m), (10, Mx.spec_RecordText.m), (221, Mx.spec_ReadVar.m), (206, Mx.spec_ReadShort.m), (104, Mx.spec_l12Read.m), (12, Mx.spec_ReadRecords.m), (101, Mx.impl_within.m), (230, Mx.impl_VarText.m), (231, Mx.impl_ReadVar.m), (207, Mx.impl_ReadShort.m), (249, Mx.impl_SumMore.m), (203, Mx.impl_SumOf.m), (236, Mx.impl_fourAt.m), (168, Mx.impl_Unsealed.m), (105, Mx.impl_recordAt.m), (13, Mx.impl_ReadRecords.m), (14, Mx.laws_eqStringS.m), (106, Mx.laws_markText.m), (15, Mx.laws_markStringS.m), (16, Mx.laws_heldStringS.m), (364, Mx.laws_FnExactReadRecords.m)]
def F : Nat → FuncId := Mx.tabF num
def M : Nat → Option Mx.Body := Mx.tabM tab
theorem ok98 : Mx.okFunc Try.prog F 98 Mx.spec_l01In.m = true := by kernel_rfl
theorem ok202 : Mx.okFunc Try.prog F 202 Mx.spec_l02Four.m = true := by kernel_rfl
theorem ok248 : Mx.okFunc Try.prog F 248 Mx.spec_SumMore.m = true := by kernel_rfl
theorem ok201 : Mx.okFunc Try.prog F 201 Mx.spec_SumOf.m = true := by kernel_rfl
theorem ok100 : Mx.okFunc Try.prog F 100 Mx.spec_Sealed.m = true := by kernel_rfl
theorem ok99 : Mx.okFunc Try.prog F 99 Mx.spec_l01Var.m = true := by kernel_rfl
theorem ok10 : Mx.okFunc Try.prog F 10 Mx.spec_RecordText.m = true := by kernel_rfl
theorem ok221 : Mx.okFunc Try.prog F 221 Mx.spec_ReadVar.m = true := by kernel_rfl
theorem ok206 : Mx.okFunc Try.prog F 206 Mx.spec_ReadShort.m = true := by kernel_rfl
theorem ok104 : Mx.okFunc Try.prog F 104 Mx.spec_l12Read.m = true := by kernel_rfl
theorem ok12 : Mx.okFunc Try.prog F 12 Mx.spec_ReadRecords.m = true := by kernel_rfl
theorem ok101 : Mx.okFunc Try.prog F 101 Mx.impl_within.m = true := by kernel_rfl
theorem ok230 : Mx.okFunc Try.prog F 230 Mx.impl_VarText.m = true := by kernel_rfl
theorem ok231 : Mx.okFunc Try.prog F 231 Mx.impl_ReadVar.m = true := by kernel_rfl
theorem ok207 : Mx.okFunc Try.prog F 207 Mx.impl_ReadShort.m = true := by kernel_rfl
theorem ok249 : Mx.okFunc Try.prog F 249 Mx.impl_SumMore.m = true := by kernel_rfl
theorem ok203 : Mx.okFunc Try.prog F 203 Mx.impl_SumOf.m = true := by kernel_rfl
theorem ok236 : Mx.okFunc Try.prog F 236 Mx.impl_fourAt.m = true := by kernel_rfl
theorem ok168 : Mx.okFunc Try.prog F 168 Mx.impl_Unsealed.m = true := by kernel_rfl
theorem ok105 : Mx.okFunc Try.prog F 105 Mx.impl_recordAt.m = true := by kernel_rfl
theorem ok13 : Mx.okFunc Try.prog F 13 Mx.impl_ReadRecords.m = true := by kernel_rfl
theorem ok14 : Mx.okFunc Try.prog F 14 Mx.laws_eqStringS.m = true := by kernel_rfl
theorem ok106 : Mx.okFunc Try.prog F 106 Mx.laws_markText.m = true := by kernel_rfl
theorem ok15 : Mx.okFunc Try.prog F 15 Mx.laws_markStringS.m = true := by kernel_rfl
theorem ok16 : Mx.okFunc Try.prog F 16 Mx.laws_heldStringS.m = true := by kernel_rfl
theorem ok364 : Mx.okFunc Try.prog F 364 Mx.laws_FnExactReadRecords.m = true := by kernel_rfl
theorem table : Mx.TableOk Try.prog F M := by
  refine Mx.table_list ?_
  · simp only [tab, List.forall_mem_cons]
    exact ⟨ok98, ok202, ok248, ok201, ok100, ok99, ok10, ok221, ok206, ok104, ok12, ok101, ok230, ok231, ok207, ok249, ok203, ok236, ok168, ok105, ok13, ok14, ok106, ok15, ok16, ok364, by simp⟩
theorem k98 : Mx.spec_l01In.k M := rfl
theorem k202 : Mx.spec_l02Four.k M := rfl
theorem k248 : Mx.spec_SumMore.k M := rfl
theorem k201 : Mx.spec_SumOf.k M := ⟨rfl, k248⟩
theorem k100 : Mx.spec_Sealed.k M := ⟨rfl, k201, k202⟩
theorem k99 : Mx.spec_l01Var.k M := rfl
theorem k10 : Mx.spec_RecordText.k M := ⟨rfl, k98, k99, k100⟩
theorem k221 : Mx.spec_ReadVar.k M := ⟨rfl, k98, k99⟩
theorem k206 : Mx.spec_ReadShort.k M := ⟨rfl, k221⟩
theorem k104 : Mx.spec_l12Read.k M := ⟨rfl, k10, k206⟩
theorem k12 : Mx.spec_ReadRecords.k M := ⟨rfl, k104⟩
theorem k101 : Mx.impl_within.k M := rfl
theorem k230 : Mx.impl_VarText.k M := ⟨rfl, k101⟩
theorem k231 : Mx.impl_ReadVar.k M := ⟨rfl, k101, k230⟩
theorem k207 : Mx.impl_ReadShort.k M := ⟨rfl, k231⟩
theorem k249 : Mx.impl_SumMore.k M := rfl
theorem k203 : Mx.impl_SumOf.k M := ⟨rfl, k249⟩
theorem k236 : Mx.impl_fourAt.k M := rfl
theorem k168 : Mx.impl_Unsealed.k M := ⟨rfl, k101, k203, k236⟩
theorem k105 : Mx.impl_recordAt.k M := ⟨rfl, k101, k168, k207⟩
theorem k13 : Mx.impl_ReadRecords.k M := ⟨rfl, k105⟩
theorem k14 : Mx.laws_eqStringS.k M := rfl
theorem k106 : Mx.laws_markText.k M := rfl
theorem k15 : Mx.laws_markStringS.k M := ⟨rfl, k106⟩
theorem k16 : Mx.laws_heldStringS.k M := ⟨rfl, k106⟩
theorem k364 : Mx.laws_FnExactReadRecords.k M := ⟨rfl, k12, k13, k14, k15, k16⟩

theorem own : ownKnob Try.prog.godebug = none := by kernel_rfl
set_option maxRecDepth 100000 in
theorem lifted (os : Os) (started : os.Started) (H : Type) (enc : TypeId × Value → H) :
    ReturnsInHanded {} Try.checked os 4 .any (Rows.fnExactReadRecordsSpec.pre6 enc Try.prog Try.f4 Rows.fnExactReadRecordsRow.domain false) (Rows.fnExactReadRecordsSpec.post enc Try.prog Try.f4 false true false false) := by
  refine Mx.lift_row (C := Try.checked) (F := F) (M := M) (fn := Try.f4) (rt := 4) table 364 60 [.cell .str] own started (by kernel_rfl) Try.func4
    (ChangeSpec.witness6 (enc := enc) (C := Try.checked) false ⟨#[], #[.string ByteArray.empty], []⟩ 12 (by kernel_rfl) (by kernel_rfl) (by kernel_rfl) (by kernel_rfl))
    (by kernel_rfl) (by kernel_rfl) (by rfl) (by kernel_rfl) rfl (fun ds h => ?_) (fun xs h => ?_)
  · match ds, h with
    | [d0], _ => rfl
  · have k := k364
    exact Mx.laws_FnExactReadRecords.row k h
theorem over : Rows.fnExactReadRecordsRow.holds Try.pinned (OpenSpec.ofChange Rows.fnExactReadRecordsSpec) :=
  OpenClaim.holds_of_wide 4 Try.f4 rfl rfl rfl rfl rfl rfl rfl ⟨rfl, rfl, rfl, rfl, rfl⟩ rfl rfl rfl rfl rfl (by kernel_rfl) Try.func4 (by kernel_rfl)
    (of_decide_eq_true (by kernel_rfl)) (by unfold Func.isWrapper; first | (rw [if_pos (by decide +kernel)]; kernel_rfl) | (rw [if_neg (by decide +kernel)]; exact ⟨rfl, rfl⟩))
    (fun os started H enc _ => lifted os started H enc)
theorem proved : Rows.FnExactReadRecordsSaid := over
#print axioms proved
end Go.Proofs.Ytddgjibndegbaaa.fnExactReadRecords

/-
  PROVED: at every input FnExactReadCall returns true, and its arguments read as they did. No condition.
-/
import Derived.Test.YtddgjibndegbaaaRows
import Derived.Test.YtddgjibndegbaaaMxCad
set_option linter.unusedSimpArgs false
set_option linter.unusedVariables false
namespace Go.Proofs.Ytddgjibndegbaaa.fnExactReadCall
open Go.ChangeShapes Go.WideShapes Go.ChangeAt Go.RowKit
set_option linter.unusedVariables false
def num : List (Nat × Nat) := [(98, 55), (90, 118), (99, 57), (221, 136), (139, 97), (202, 102), (248, 139), (201, 103), (167, 162), (91, 66), (132, 83), (183, 119), (186, 120), (276, 172), (242, 146), (187, 121), (88, 79), (206, 107), (140, 98), (142, 164), (141, 182), (52, 163), (122, 80), (34, 33), (100, 56), (226, 187), (227, 188), (149, 183), (60, 165), (75, 131), (146, 92), (58, 47), (64, 50), (101, 58), (147, 93), (89, 94), (148, 95), (230, 138), (231, 137), (152, 99), (249, 140), (203, 105), (236, 141), (168, 109), (169, 132), (207, 108), (153, 100), (170, 134), (222, 166), (223, 167), (143, 133), (161, 112), (160, 113), (72, 69), (164, 122), (165, 123), (272, 173), (235, 147), (166, 124), (234, 148), (156, 125), (74, 81), (200, 184), (271, 185), (228, 168), (229, 169), (150, 135), (76, 96), (59, 49), (65, 51), (66, 52), (372, 12)]
def tab : List (Nat × Mx.Fn) := [(98, Mx.spec_l01In.m), (90, Mx.spec_NameOk.m), (99, Mx.spec_l01Var.m), (221, Mx.spec_ReadVar.m), (139, Mx.spec_l05Var.m), (202, Mx.spec_l02Four.m), (248, Mx.spec_SumMore.m), (201, Mx.spec_SumOf.m), (167, Mx.spec_Unsealed.m), (91, Mx.spec_MailAt.m), (132, Mx.spec_l06In.m), (183, Mx.spec_StampOk.m), (186, Mx.spec_l06Sorted.m), (276, Mx.spec_RegOk.m), (242, Mx.spec_FlagsOk.m), (187, Mx.spec_MailOk.m), (88, Mx.spec_BoxOk.m), (206, Mx.spec_ReadShort.m), (140, Mx.spec_l05Short.m), (142, Mx.spec_l10Ints.m), (141, Mx.spec_ReadMail.m), (52, Mx.spec_ReadBox.m), (122, Mx.spec_MailText.m), (34, Mx.spec_BoxText.m), (100, Mx.spec_Sealed.m), (226, Mx.spec_BoxNamed.m), (227, Mx.spec_l07Times.m), (149, Mx.spec_StoreOk.m), (60, Mx.spec_StoreText.m), (75, Mx.spec_ReadStore.m), (146, Mx.spec_l11Text.m), (58, Mx.spec_CallOk.m), (64, Mx.spec_ReadCall.m), (101, Mx.impl_within.m), (147, Mx.impl_isGid.m), (89, Mx.impl_NameOk.m), (148, Mx.impl_isFlags.m), (230, Mx.impl_VarText.m), (231, Mx.impl_ReadVar.m), (152, Mx.impl_scan_num.m), (249, Mx.impl_SumMore.m), (203, Mx.impl_SumOf.m), (236, Mx.impl_fourAt.m), (168, Mx.impl_Unsealed.m), (169, Mx.impl_scan_many.m), (207, Mx.impl_ReadShort.m), (153, Mx.impl_scan_short.m), (170, Mx.impl_scan_nums.m), (222, Mx.impl_scan_stamp.m), (223, Mx.impl_scan_mail.m), (143, Mx.impl_scan_box.m), (161, Mx.slices_IndexFunc_impl_Mail_impl_Mail.m), (160, Mx.impl_MailAt_1.m), (72, Mx.impl_MailAt.m), (164, Mx.impl_StampOk.m), (165, Mx.impl_areGids.m), (272, Mx.impl_RegOk.m), (235, Mx.impl_FlagsOk.m), (166, Mx.impl_MailOk.m), (234, Mx.slices_Index_int_int.m), (156, Mx.slices_Contains_int_int.m), (74, Mx.impl_BoxOk.m), (200, Mx.slices_IndexFunc_impl_Box_impl_Box.m), (271, Mx.impl_BoxNamed_1.m), (228, Mx.impl_BoxNamed.m), (229, Mx.impl_isLate.m), (150, Mx.impl_StoreOk.m), (76, Mx.impl_ReadStore.m), (59, Mx.impl_CallOk.m), (65, Mx.impl_ReadCall.m), (66, Mx.laws_eqCall.m), (372, Mx.laws_FnExactReadCall.m)]
def F : Nat → FuncId := Mx.tabF num
def M : Nat → Option Mx.Body := Mx.tabM tab
theorem ok98 : Mx.okFunc Try.prog F 98 Mx.spec_l01In.m = true := by kernel_rfl
theorem ok90 : Mx.okFunc Try.prog F 90 Mx.spec_NameOk.m = true := by kernel_rfl
theorem ok99 : Mx.okFunc Try.prog F 99 Mx.spec_l01Var.m = true := by kernel_rfl
theorem ok221 : Mx.okFunc Try.prog F 221 Mx.spec_ReadVar.m = true := by kernel_rfl
theorem ok139 : Mx.okFunc Try.prog F 139 Mx.spec_l05Var.m = true := by kernel_rfl
theorem ok202 : Mx.okFunc Try.prog F 202 Mx.spec_l02Four.m = true := by kernel_rfl
theorem ok248 : Mx.okFunc Try.prog F 248 Mx.spec_SumMore.m = true := by kernel_rfl
theorem ok201 : Mx.okFunc Try.prog F 201 Mx.spec_SumOf.m = true := by kernel_rfl
theorem ok167 : Mx.okFunc Try.prog F 167 Mx.spec_Unsealed.m = true := by kernel_rfl
theorem ok91 : Mx.okFunc Try.prog F 91 Mx.spec_MailAt.m = true := by kernel_rfl
theorem ok132 : Mx.okFunc Try.prog F 132 Mx.spec_l06In.m = true := by kernel_rfl
theorem ok183 : Mx.okFunc Try.prog F 183 Mx.spec_StampOk.m = true := by kernel_rfl
theorem ok186 : Mx.okFunc Try.prog F 186 Mx.spec_l06Sorted.m = true := by kernel_rfl
theorem ok276 : Mx.okFunc Try.prog F 276 Mx.spec_RegOk.m = true := by kernel_rfl
theorem ok242 : Mx.okFunc Try.prog F 242 Mx.spec_FlagsOk.m = true := by kernel_rfl
theorem ok187 : Mx.okFunc Try.prog F 187 Mx.spec_MailOk.m = true := by kernel_rfl
theorem ok88 : Mx.okFunc Try.prog F 88 Mx.spec_BoxOk.m = true := by kernel_rfl
theorem ok206 : Mx.okFunc Try.prog F 206 Mx.spec_ReadShort.m = true := by kernel_rfl
theorem ok140 : Mx.okFunc Try.prog F 140 Mx.spec_l05Short.m = true := by kernel_rfl
theorem ok142 : Mx.okFunc Try.prog F 142 Mx.spec_l10Ints.m = true := by kernel_rfl
theorem ok141 : Mx.okFunc Try.prog F 141 Mx.spec_ReadMail.m = true := by kernel_rfl
theorem ok52 : Mx.okFunc Try.prog F 52 Mx.spec_ReadBox.m = true := by kernel_rfl
theorem ok122 : Mx.okFunc Try.prog F 122 Mx.spec_MailText.m = true := by kernel_rfl
theorem ok34 : Mx.okFunc Try.prog F 34 Mx.spec_BoxText.m = true := by kernel_rfl
theorem ok100 : Mx.okFunc Try.prog F 100 Mx.spec_Sealed.m = true := by kernel_rfl
theorem ok226 : Mx.okFunc Try.prog F 226 Mx.spec_BoxNamed.m = true := by kernel_rfl
theorem ok227 : Mx.okFunc Try.prog F 227 Mx.spec_l07Times.m = true := by kernel_rfl
theorem ok149 : Mx.okFunc Try.prog F 149 Mx.spec_StoreOk.m = true := by kernel_rfl
theorem ok60 : Mx.okFunc Try.prog F 60 Mx.spec_StoreText.m = true := by kernel_rfl
theorem ok75 : Mx.okFunc Try.prog F 75 Mx.spec_ReadStore.m = true := by kernel_rfl
theorem ok146 : Mx.okFunc Try.prog F 146 Mx.spec_l11Text.m = true := by kernel_rfl
theorem ok58 : Mx.okFunc Try.prog F 58 Mx.spec_CallOk.m = true := by kernel_rfl
theorem ok64 : Mx.okFunc Try.prog F 64 Mx.spec_ReadCall.m = true := by kernel_rfl
theorem ok101 : Mx.okFunc Try.prog F 101 Mx.impl_within.m = true := by kernel_rfl
theorem ok147 : Mx.okFunc Try.prog F 147 Mx.impl_isGid.m = true := by kernel_rfl
theorem ok89 : Mx.okFunc Try.prog F 89 Mx.impl_NameOk.m = true := by kernel_rfl
theorem ok148 : Mx.okFunc Try.prog F 148 Mx.impl_isFlags.m = true := by kernel_rfl
theorem ok230 : Mx.okFunc Try.prog F 230 Mx.impl_VarText.m = true := by kernel_rfl
theorem ok231 : Mx.okFunc Try.prog F 231 Mx.impl_ReadVar.m = true := by kernel_rfl
theorem ok152 : Mx.okFunc Try.prog F 152 Mx.impl_scan_num.m = true := by kernel_rfl
theorem ok249 : Mx.okFunc Try.prog F 249 Mx.impl_SumMore.m = true := by kernel_rfl
theorem ok203 : Mx.okFunc Try.prog F 203 Mx.impl_SumOf.m = true := by kernel_rfl
theorem ok236 : Mx.okFunc Try.prog F 236 Mx.impl_fourAt.m = true := by kernel_rfl
theorem ok168 : Mx.okFunc Try.prog F 168 Mx.impl_Unsealed.m = true := by kernel_rfl
theorem ok169 : Mx.okFunc Try.prog F 169 Mx.impl_scan_many.m = true := by kernel_rfl
theorem ok207 : Mx.okFunc Try.prog F 207 Mx.impl_ReadShort.m = true := by kernel_rfl
theorem ok153 : Mx.okFunc Try.prog F 153 Mx.impl_scan_short.m = true := by kernel_rfl
theorem ok170 : Mx.okFunc Try.prog F 170 Mx.impl_scan_nums.m = true := by kernel_rfl
theorem ok222 : Mx.okFunc Try.prog F 222 Mx.impl_scan_stamp.m = true := by kernel_rfl
theorem ok223 : Mx.okFunc Try.prog F 223 Mx.impl_scan_mail.m = true := by kernel_rfl
theorem ok143 : Mx.okFunc Try.prog F 143 Mx.impl_scan_box.m = true := by kernel_rfl
theorem ok161 : Mx.okFunc Try.prog F 161 Mx.slices_IndexFunc_impl_Mail_impl_Mail.m = true := by kernel_rfl
theorem ok160 : Mx.okFunc Try.prog F 160 Mx.impl_MailAt_1.m = true := by kernel_rfl
theorem ok72 : Mx.okFunc Try.prog F 72 Mx.impl_MailAt.m = true := by kernel_rfl
theorem ok164 : Mx.okFunc Try.prog F 164 Mx.impl_StampOk.m = true := by kernel_rfl
theorem ok165 : Mx.okFunc Try.prog F 165 Mx.impl_areGids.m = true := by kernel_rfl
theorem ok272 : Mx.okFunc Try.prog F 272 Mx.impl_RegOk.m = true := by kernel_rfl
theorem ok235 : Mx.okFunc Try.prog F 235 Mx.impl_FlagsOk.m = true := by kernel_rfl
theorem ok166 : Mx.okFunc Try.prog F 166 Mx.impl_MailOk.m = true := by kernel_rfl
theorem ok234 : Mx.okFunc Try.prog F 234 Mx.slices_Index_int_int.m = true := by kernel_rfl
theorem ok156 : Mx.okFunc Try.prog F 156 Mx.slices_Contains_int_int.m = true := by kernel_rfl
theorem ok74 : Mx.okFunc Try.prog F 74 Mx.impl_BoxOk.m = true := by kernel_rfl
theorem ok200 : Mx.okFunc Try.prog F 200 Mx.slices_IndexFunc_impl_Box_impl_Box.m = true := by kernel_rfl
theorem ok271 : Mx.okFunc Try.prog F 271 Mx.impl_BoxNamed_1.m = true := by kernel_rfl
theorem ok228 : Mx.okFunc Try.prog F 228 Mx.impl_BoxNamed.m = true := by kernel_rfl
theorem ok229 : Mx.okFunc Try.prog F 229 Mx.impl_isLate.m = true := by kernel_rfl
theorem ok150 : Mx.okFunc Try.prog F 150 Mx.impl_StoreOk.m = true := by kernel_rfl
theorem ok76 : Mx.okFunc Try.prog F 76 Mx.impl_ReadStore.m = true := by kernel_rfl
theorem ok59 : Mx.okFunc Try.prog F 59 Mx.impl_CallOk.m = true := by kernel_rfl
theorem ok65 : Mx.okFunc Try.prog F 65 Mx.impl_ReadCall.m = true := by kernel_rfl
theorem ok66 : Mx.okFunc Try.prog F 66 Mx.laws_eqCall.m = true := by kernel_rfl
theorem ok372 : Mx.okFunc Try.prog F 372 Mx.laws_FnExactReadCall.m = true := by kernel_rfl
theorem table : Mx.TableOk Try.prog F M := by
  refine Mx.table_list ?_
  · simp only [tab, List.forall_mem_cons]
    exact ⟨ok98, ok90, ok99, ok221, ok139, ok202, ok248, ok201, ok167, ok91, ok132, ok183, ok186, ok276, ok242, ok187, ok88, ok206, ok140, ok142, ok141, ok52, ok122, ok34, ok100, ok226, ok227, ok149, ok60, ok75, ok146, ok58, ok64, ok101, ok147, ok89, ok148, ok230, ok231, ok152, ok249, ok203, ok236, ok168, ok169, ok207, ok153, ok170, ok222, ok223, ok143, ok161, ok160, ok72, ok164, ok165, ok272, ok235, ok166, ok234, ok156, ok74, ok200, ok271, ok228, ok229, ok150, ok76, ok59, ok65, ok66, ok372, by simp⟩
theorem k98 : Mx.spec_l01In.k M := rfl
theorem k90 : Mx.spec_NameOk.k M := ⟨rfl, k98⟩
theorem k99 : Mx.spec_l01Var.k M := rfl
theorem k221 : Mx.spec_ReadVar.k M := ⟨rfl, k98, k99⟩
theorem k139 : Mx.spec_l05Var.k M := ⟨rfl, k221⟩
theorem k202 : Mx.spec_l02Four.k M := rfl
theorem k248 : Mx.spec_SumMore.k M := rfl
theorem k201 : Mx.spec_SumOf.k M := ⟨rfl, k248⟩
theorem k167 : Mx.spec_Unsealed.k M := ⟨rfl, k201, k202⟩
theorem k91 : Mx.spec_MailAt.k M := rfl
theorem k132 : Mx.spec_l06In.k M := rfl
theorem k183 : Mx.spec_StampOk.k M := ⟨rfl, k98⟩
theorem k186 : Mx.spec_l06Sorted.k M := ⟨rfl, k98⟩
theorem k276 : Mx.spec_RegOk.k M := ⟨rfl, k98, k183⟩
theorem k242 : Mx.spec_FlagsOk.k M := ⟨rfl, k276⟩
theorem k187 : Mx.spec_MailOk.k M := ⟨rfl, k98, k242⟩
theorem k88 : Mx.spec_BoxOk.k M := ⟨rfl, k90, k91, k98, k132, k183, k186, k187⟩
theorem k206 : Mx.spec_ReadShort.k M := ⟨rfl, k221⟩
theorem k140 : Mx.spec_l05Short.k M := ⟨rfl, k206⟩
theorem k142 : Mx.spec_l10Ints.k M := ⟨rfl, k139⟩
theorem k141 : Mx.spec_ReadMail.k M := ⟨rfl, k139, k140, k187⟩
theorem k52 : Mx.spec_ReadBox.k M := ⟨rfl, k88, k139, k140, k141, k142⟩
theorem k122 : Mx.spec_MailText.k M := ⟨rfl, k99, k187⟩
theorem k34 : Mx.spec_BoxText.k M := ⟨rfl, k88, k99, k122⟩
theorem k100 : Mx.spec_Sealed.k M := ⟨rfl, k201, k202⟩
theorem k226 : Mx.spec_BoxNamed.k M := rfl
theorem k227 : Mx.spec_l07Times.k M := rfl
theorem k149 : Mx.spec_StoreOk.k M := ⟨rfl, k88, k98, k132, k186, k226, k227⟩
theorem k60 : Mx.spec_StoreText.k M := ⟨rfl, k34, k99, k100, k149⟩
theorem k75 : Mx.spec_ReadStore.k M := ⟨rfl, k52, k60, k139, k142, k167⟩
theorem k146 : Mx.spec_l11Text.k M := ⟨rfl, k75, k90⟩
theorem k58 : Mx.spec_CallOk.k M := ⟨rfl, k98, k146⟩
theorem k64 : Mx.spec_ReadCall.k M := ⟨rfl, k58, k139, k140⟩
theorem k101 : Mx.impl_within.k M := rfl
theorem k147 : Mx.impl_isGid.k M := ⟨rfl, k101⟩
theorem k89 : Mx.impl_NameOk.k M := ⟨rfl, k101⟩
theorem k148 : Mx.impl_isFlags.k M := ⟨rfl, k101⟩
theorem k230 : Mx.impl_VarText.k M := ⟨rfl, k101⟩
theorem k231 : Mx.impl_ReadVar.k M := ⟨rfl, k101, k230⟩
theorem k152 : Mx.impl_scan_num.k M := ⟨rfl, k231⟩
theorem k249 : Mx.impl_SumMore.k M := rfl
theorem k203 : Mx.impl_SumOf.k M := ⟨rfl, k249⟩
theorem k236 : Mx.impl_fourAt.k M := rfl
theorem k168 : Mx.impl_Unsealed.k M := ⟨rfl, k101, k203, k236⟩
theorem k169 : Mx.impl_scan_many.k M := ⟨rfl, k152⟩
theorem k207 : Mx.impl_ReadShort.k M := ⟨rfl, k231⟩
theorem k153 : Mx.impl_scan_short.k M := ⟨rfl, k207⟩
theorem k170 : Mx.impl_scan_nums.k M := ⟨rfl, k152, k169⟩
theorem k222 : Mx.impl_scan_stamp.k M := ⟨rfl, k152⟩
theorem k223 : Mx.impl_scan_mail.k M := ⟨rfl, k152, k153, k222⟩
theorem k143 : Mx.impl_scan_box.k M := ⟨rfl, k152, k153, k169, k170, k222, k223⟩
theorem k161 : Mx.slices_IndexFunc_impl_Mail_impl_Mail.k M := rfl
theorem k160 : Mx.impl_MailAt_1.k M := rfl
theorem k72 : Mx.impl_MailAt.k M := ⟨rfl, k160, k161⟩
theorem k164 : Mx.impl_StampOk.k M := ⟨rfl, k101⟩
theorem k165 : Mx.impl_areGids.k M := ⟨rfl, k147⟩
theorem k272 : Mx.impl_RegOk.k M := ⟨rfl, k101, k164⟩
theorem k235 : Mx.impl_FlagsOk.k M := ⟨rfl, k272⟩
theorem k166 : Mx.impl_MailOk.k M := ⟨rfl, k147, k235⟩
theorem k234 : Mx.slices_Index_int_int.k M := rfl
theorem k156 : Mx.slices_Contains_int_int.k M := ⟨rfl, k234⟩
theorem k74 : Mx.impl_BoxOk.k M := ⟨rfl, k72, k89, k101, k147, k156, k164, k165, k166⟩
theorem k200 : Mx.slices_IndexFunc_impl_Box_impl_Box.k M := rfl
theorem k271 : Mx.impl_BoxNamed_1.k M := rfl
theorem k228 : Mx.impl_BoxNamed.k M := ⟨rfl, k200, k271⟩
theorem k229 : Mx.impl_isLate.k M := rfl
theorem k150 : Mx.impl_StoreOk.k M := ⟨rfl, k74, k101, k156, k165, k228, k229⟩
theorem k76 : Mx.impl_ReadStore.k M := ⟨rfl, k143, k150, k152, k168, k169, k170⟩
theorem k59 : Mx.impl_CallOk.k M := ⟨rfl, k76, k89, k147, k148⟩
theorem k65 : Mx.impl_ReadCall.k M := ⟨rfl, k59, k152, k153⟩
theorem k66 : Mx.laws_eqCall.k M := rfl
theorem k372 : Mx.laws_FnExactReadCall.k M := ⟨rfl, k64, k65, k66⟩

theorem own : ownKnob Try.prog.godebug = none := by kernel_rfl
set_option maxRecDepth 100000 in
theorem lifted (os : Os) (started : os.Started) (H : Type) (enc : TypeId × Value → H) :
    ReturnsInHanded {} Try.checked os 12 .any (Rows.fnExactReadCallSpec.pre6 enc Try.prog Try.f12 Rows.fnExactReadCallRow.domain false) (Rows.fnExactReadCallSpec.post enc Try.prog Try.f12 false true false false) := by
  refine Mx.lift_row (C := Try.checked) (F := F) (M := M) (fn := Try.f12) (rt := 4) table 372 60 [.cell .str] own started (by kernel_rfl) Try.func12
    (ChangeSpec.witness6 (enc := enc) (C := Try.checked) false ⟨#[], #[.string ByteArray.empty], []⟩ 12 (by kernel_rfl) (by kernel_rfl) (by kernel_rfl) (by kernel_rfl))
    (by kernel_rfl) (by kernel_rfl) (by rfl) (by kernel_rfl) rfl (fun ds h => ?_) (fun xs h => ?_)
  · match ds, h with
    | [d0], _ => rfl
  · have k := k372
    exact Mx.laws_FnExactReadCall.row k h
theorem over : Rows.fnExactReadCallRow.holds Try.pinned (OpenSpec.ofChange Rows.fnExactReadCallSpec) :=
  OpenClaim.holds_of_wide 12 Try.f12 rfl rfl rfl rfl rfl rfl rfl ⟨rfl, rfl, rfl, rfl, rfl⟩ rfl rfl rfl rfl rfl (by kernel_rfl) Try.func12 (by kernel_rfl)
    (of_decide_eq_true (by kernel_rfl)) (by unfold Func.isWrapper; first | (rw [if_pos (by decide +kernel)]; kernel_rfl) | (rw [if_neg (by decide +kernel)]; exact ⟨rfl, rfl⟩))
    (fun os started H enc _ => lifted os started H enc)
theorem proved : Rows.FnExactReadCallSaid := over
#print axioms proved
end Go.Proofs.Ytddgjibndegbaaa.fnExactReadCall

/-
  Toward: at every input FnTexts returns true, and its arguments read as they did. No condition.
-/
import Derived.Test.YtfibgklkcjpmgaaGreatRows
import Derived.Test.YtfibgklkcjpmgaaGreatMxTee
set_option linter.unusedSimpArgs false
set_option linter.unusedVariables false
namespace Go.Proofs.YtfibgklkcjpmgaaGreat.fnTexts
open Go.ChangeShapes Go.WideShapes Go.ChangeAt Go.RowKit
set_option linter.unusedVariables false
def num : List (Nat × Nat) := [(36, 6), (131, 88), (125, 61), (241, 177), (238, 158), (180, 109), (185, 103), (174, 106), (98, 75), (186, 76), (132, 78), (90, 81), (183, 82), (276, 172), (242, 143), (187, 83), (91, 84), (88, 20), (181, 159), (81, 112), (277, 197), (243, 180), (184, 161), (84, 115), (133, 111), (86, 117), (232, 167), (154, 133), (298, 181), (273, 168), (179, 104), (177, 135), (299, 182), (274, 169), (176, 170), (237, 134), (173, 68), (219, 74), (226, 77), (227, 79), (149, 18), (196, 110), (300, 107), (301, 108), (278, 40), (282, 41), (283, 42), (302, 113), (279, 43), (280, 45), (281, 47), (175, 73), (244, 144), (113, 145), (188, 87), (443, 51), (124, 52), (416, 7), (200, 99), (271, 101), (228, 32), (101, 92), (147, 136), (165, 93), (234, 150), (156, 94), (161, 156), (160, 157), (72, 102), (89, 137), (164, 138), (272, 183), (235, 171), (166, 139), (74, 69), (229, 95), (150, 27), (230, 118), (151, 53), (205, 163), (102, 119), (213, 120), (123, 54), (204, 121), (249, 164), (203, 122), (103, 55), (61, 8), (236, 123), (168, 56), (231, 124), (152, 57), (169, 58), (170, 60), (207, 165), (153, 125), (222, 126), (223, 127), (143, 59), (76, 9), (202, 129), (248, 166), (201, 130), (100, 64), (99, 128), (122, 140), (34, 70), (60, 62), (167, 63), (465, 131), (444, 65), (417, 10), (221, 132), (139, 66), (142, 67), (206, 141), (140, 71), (141, 72), (52, 16), (75, 11), (418, 12), (35, 13), (53, 14), (419, 15), (420, 17), (159, 86), (116, 142), (31, 80), (421, 19), (158, 85), (71, 21), (63, 22), (62, 23), (396, 3)]
def tab : List (Nat × Mx.Fn) := [(36, Mx.laws_big.m), (131, Mx.spec_l01Byte.m), (125, Mx.spec_l01Below.m), (241, Mx.spec_l04Copy.m), (238, Mx.spec_l05Copy.m), (180, Mx.spec_l06Copy.m), (185, Mx.spec_l01Pick.m), (174, Mx.spec_l05Text.m), (98, Mx.spec_l01In.m), (186, Mx.spec_l06Sorted.m), (132, Mx.spec_l06In.m), (90, Mx.spec_NameOk.m), (183, Mx.spec_StampOk.m), (276, Mx.spec_RegOk.m), (242, Mx.spec_FlagsOk.m), (187, Mx.spec_MailOk.m), (91, Mx.spec_MailAt.m), (88, Mx.spec_BoxOk.m), (181, Mx.spec_FlagsNew.m), (81, Mx.spec_AddMail.m), (277, Mx.spec_Later.m), (243, Mx.spec_PutReg.m), (184, Mx.spec_SetFlags.m), (84, Mx.spec_FlagMail.m), (133, Mx.spec_l06Put.m), (86, Mx.spec_TakeOut.m), (232, Mx.spec_l03Stamp.m), (154, Mx.spec_l06Box.m), (298, Mx.spec_l04Flags.m), (273, Mx.spec_l05Mail.m), (179, Mx.spec_l01PickInt.m), (177, Mx.spec_l03Any.m), (299, Mx.spec_l03Reg.m), (274, Mx.spec_l04Any.m), (176, Mx.spec_l01Long.m), (237, Mx.spec_l05Any.m), (173, Mx.spec_l06Any.m), (219, Mx.spec_l07Copy.m), (226, Mx.spec_BoxNamed.m), (227, Mx.spec_l07Times.m), (149, Mx.spec_StoreOk.m), (196, Mx.spec_BoxAt.m), (300, Mx.spec_Knows.m), (301, Mx.spec_NextStamp.m), (278, Mx.spec_MakeBox.m), (282, Mx.spec_RenameBox.m), (283, Mx.spec_DropBox.m), (302, Mx.spec_l07Stamped.m), (279, Mx.spec_PutMail.m), (280, Mx.spec_MarkMail.m), (281, Mx.spec_DropMail.m), (175, Mx.spec_l01Once.m), (244, Mx.spec_l07Use.m), (113, Mx.spec_StoreNew.m), (188, Mx.spec_l07Store.m), (443, Mx.spec_l07Any.m), (124, Mx.spec_l01New.m), (416, Mx.spec_DrawStoreText.m), (200, Mx.slices_IndexFunc_impl_Box_impl_Box.m), (271, Mx.impl_BoxNamed_1.m), (228, Mx.impl_BoxNamed.m), (101, Mx.impl_within.m), (147, Mx.impl_isGid.m), (165, Mx.impl_areGids.m), (234, Mx.slices_Index_int_int.m), (156, Mx.slices_Contains_int_int.m), (161, Mx.slices_IndexFunc_impl_Mail_impl_Mail.m), (160, Mx.impl_MailAt_1.m), (72, Mx.impl_MailAt.m), (89, Mx.impl_NameOk.m), (164, Mx.impl_StampOk.m), (272, Mx.impl_RegOk.m), (235, Mx.impl_FlagsOk.m), (166, Mx.impl_MailOk.m), (74, Mx.impl_BoxOk.m), (229, Mx.impl_isLate.m), (150, Mx.impl_StoreOk.m), (230, Mx.impl_VarText.m), (151, Mx.impl_vars.m), (205, Mx.impl_ShortText.m), (102, Mx.impl_short.m), (213, Mx.impl_MailText.m), (123, Mx.impl_boxText.m), (204, Mx.impl_four.m), (249, Mx.impl_SumMore.m), (203, Mx.impl_SumOf.m), (103, Mx.impl_Sealed.m), (61, Mx.impl_StoreText.m), (236, Mx.impl_fourAt.m), (168, Mx.impl_Unsealed.m), (231, Mx.impl_ReadVar.m), (152, Mx.impl_scan_num.m), (169, Mx.impl_scan_many.m), (170, Mx.impl_scan_nums.m), (207, Mx.impl_ReadShort.m), (153, Mx.impl_scan_short.m), (222, Mx.impl_scan_stamp.m), (223, Mx.impl_scan_mail.m), (143, Mx.impl_scan_box.m), (76, Mx.impl_ReadStore.m), (202, Mx.spec_l02Four.m), (248, Mx.spec_SumMore.m), (201, Mx.spec_SumOf.m), (100, Mx.spec_Sealed.m), (99, Mx.spec_l01Var.m), (122, Mx.spec_MailText.m), (34, Mx.spec_BoxText.m), (60, Mx.spec_StoreText.m), (167, Mx.spec_Unsealed.m), (465, Mx.spec_l01Text.m), (444, Mx.spec_l02Spoilt.m), (417, Mx.spec_DrawReadStore.m), (221, Mx.spec_ReadVar.m), (139, Mx.spec_l05Var.m), (142, Mx.spec_l10Ints.m), (206, Mx.spec_ReadShort.m), (140, Mx.spec_l05Short.m), (141, Mx.spec_ReadMail.m), (52, Mx.spec_ReadBox.m), (75, Mx.spec_ReadStore.m), (418, Mx.spec_DrawBoxText.m), (35, Mx.impl_BoxText.m), (53, Mx.impl_ReadBox.m), (419, Mx.spec_DrawReadBox.m), (420, Mx.spec_DrawSameStore.m), (159, Mx.spec_SameMail.m), (116, Mx.spec_l09Box.m), (31, Mx.spec_Alike.m), (421, Mx.laws_sameAll.m), (158, Mx.laws_sameInts.m), (71, Mx.laws_sameBox.m), (63, Mx.impl_SameStore.m), (62, Mx.spec_SameStore.m), (396, Mx.laws_FnTexts.m)]
def F : Nat → FuncId := Mx.tabF num
def M : Nat → Option Mx.Body := Mx.tabM tab
theorem ok36 : Mx.okFunc Tryz.prog F 36 Mx.laws_big.m = true := by kernel_rfl
theorem ok131 : Mx.okFunc Tryz.prog F 131 Mx.spec_l01Byte.m = true := by kernel_rfl
theorem ok125 : Mx.okFunc Tryz.prog F 125 Mx.spec_l01Below.m = true := by kernel_rfl
theorem ok241 : Mx.okFunc Tryz.prog F 241 Mx.spec_l04Copy.m = true := by kernel_rfl
theorem ok238 : Mx.okFunc Tryz.prog F 238 Mx.spec_l05Copy.m = true := by kernel_rfl
theorem ok180 : Mx.okFunc Tryz.prog F 180 Mx.spec_l06Copy.m = true := by kernel_rfl
theorem ok185 : Mx.okFunc Tryz.prog F 185 Mx.spec_l01Pick.m = true := by kernel_rfl
theorem ok174 : Mx.okFunc Tryz.prog F 174 Mx.spec_l05Text.m = true := by kernel_rfl
theorem ok98 : Mx.okFunc Tryz.prog F 98 Mx.spec_l01In.m = true := by kernel_rfl
theorem ok186 : Mx.okFunc Tryz.prog F 186 Mx.spec_l06Sorted.m = true := by kernel_rfl
theorem ok132 : Mx.okFunc Tryz.prog F 132 Mx.spec_l06In.m = true := by kernel_rfl
theorem ok90 : Mx.okFunc Tryz.prog F 90 Mx.spec_NameOk.m = true := by kernel_rfl
theorem ok183 : Mx.okFunc Tryz.prog F 183 Mx.spec_StampOk.m = true := by kernel_rfl
theorem ok276 : Mx.okFunc Tryz.prog F 276 Mx.spec_RegOk.m = true := by kernel_rfl
theorem ok242 : Mx.okFunc Tryz.prog F 242 Mx.spec_FlagsOk.m = true := by kernel_rfl
theorem ok187 : Mx.okFunc Tryz.prog F 187 Mx.spec_MailOk.m = true := by kernel_rfl
theorem ok91 : Mx.okFunc Tryz.prog F 91 Mx.spec_MailAt.m = true := by kernel_rfl
theorem ok88 : Mx.okFunc Tryz.prog F 88 Mx.spec_BoxOk.m = true := by kernel_rfl
theorem ok181 : Mx.okFunc Tryz.prog F 181 Mx.spec_FlagsNew.m = true := by kernel_rfl
theorem ok81 : Mx.okFunc Tryz.prog F 81 Mx.spec_AddMail.m = true := by kernel_rfl
theorem ok277 : Mx.okFunc Tryz.prog F 277 Mx.spec_Later.m = true := by kernel_rfl
theorem ok243 : Mx.okFunc Tryz.prog F 243 Mx.spec_PutReg.m = true := by kernel_rfl
theorem ok184 : Mx.okFunc Tryz.prog F 184 Mx.spec_SetFlags.m = true := by kernel_rfl
theorem ok84 : Mx.okFunc Tryz.prog F 84 Mx.spec_FlagMail.m = true := by kernel_rfl
theorem ok133 : Mx.okFunc Tryz.prog F 133 Mx.spec_l06Put.m = true := by kernel_rfl
theorem ok86 : Mx.okFunc Tryz.prog F 86 Mx.spec_TakeOut.m = true := by kernel_rfl
theorem ok232 : Mx.okFunc Tryz.prog F 232 Mx.spec_l03Stamp.m = true := by kernel_rfl
theorem ok154 : Mx.okFunc Tryz.prog F 154 Mx.spec_l06Box.m = true := by kernel_rfl
theorem ok298 : Mx.okFunc Tryz.prog F 298 Mx.spec_l04Flags.m = true := by kernel_rfl
theorem ok273 : Mx.okFunc Tryz.prog F 273 Mx.spec_l05Mail.m = true := by kernel_rfl
theorem ok179 : Mx.okFunc Tryz.prog F 179 Mx.spec_l01PickInt.m = true := by kernel_rfl
theorem ok177 : Mx.okFunc Tryz.prog F 177 Mx.spec_l03Any.m = true := by kernel_rfl
theorem ok299 : Mx.okFunc Tryz.prog F 299 Mx.spec_l03Reg.m = true := by kernel_rfl
theorem ok274 : Mx.okFunc Tryz.prog F 274 Mx.spec_l04Any.m = true := by kernel_rfl
theorem ok176 : Mx.okFunc Tryz.prog F 176 Mx.spec_l01Long.m = true := by kernel_rfl
theorem ok237 : Mx.okFunc Tryz.prog F 237 Mx.spec_l05Any.m = true := by kernel_rfl
theorem ok173 : Mx.okFunc Tryz.prog F 173 Mx.spec_l06Any.m = true := by kernel_rfl
theorem ok219 : Mx.okFunc Tryz.prog F 219 Mx.spec_l07Copy.m = true := by kernel_rfl
theorem ok226 : Mx.okFunc Tryz.prog F 226 Mx.spec_BoxNamed.m = true := by kernel_rfl
theorem ok227 : Mx.okFunc Tryz.prog F 227 Mx.spec_l07Times.m = true := by kernel_rfl
theorem ok149 : Mx.okFunc Tryz.prog F 149 Mx.spec_StoreOk.m = true := by kernel_rfl
theorem ok196 : Mx.okFunc Tryz.prog F 196 Mx.spec_BoxAt.m = true := by kernel_rfl
theorem ok300 : Mx.okFunc Tryz.prog F 300 Mx.spec_Knows.m = true := by kernel_rfl
theorem ok301 : Mx.okFunc Tryz.prog F 301 Mx.spec_NextStamp.m = true := by kernel_rfl
theorem ok278 : Mx.okFunc Tryz.prog F 278 Mx.spec_MakeBox.m = true := by kernel_rfl
theorem ok282 : Mx.okFunc Tryz.prog F 282 Mx.spec_RenameBox.m = true := by kernel_rfl
theorem ok283 : Mx.okFunc Tryz.prog F 283 Mx.spec_DropBox.m = true := by kernel_rfl
theorem ok302 : Mx.okFunc Tryz.prog F 302 Mx.spec_l07Stamped.m = true := by kernel_rfl
theorem ok279 : Mx.okFunc Tryz.prog F 279 Mx.spec_PutMail.m = true := by kernel_rfl
theorem ok280 : Mx.okFunc Tryz.prog F 280 Mx.spec_MarkMail.m = true := by kernel_rfl
theorem ok281 : Mx.okFunc Tryz.prog F 281 Mx.spec_DropMail.m = true := by kernel_rfl
theorem ok175 : Mx.okFunc Tryz.prog F 175 Mx.spec_l01Once.m = true := by kernel_rfl
theorem ok244 : Mx.okFunc Tryz.prog F 244 Mx.spec_l07Use.m = true := by kernel_rfl
theorem ok113 : Mx.okFunc Tryz.prog F 113 Mx.spec_StoreNew.m = true := by kernel_rfl
theorem ok188 : Mx.okFunc Tryz.prog F 188 Mx.spec_l07Store.m = true := by kernel_rfl
theorem ok443 : Mx.okFunc Tryz.prog F 443 Mx.spec_l07Any.m = true := by kernel_rfl
theorem ok124 : Mx.okFunc Tryz.prog F 124 Mx.spec_l01New.m = true := by kernel_rfl
theorem ok416 : Mx.okFunc Tryz.prog F 416 Mx.spec_DrawStoreText.m = true := by kernel_rfl
theorem ok200 : Mx.okFunc Tryz.prog F 200 Mx.slices_IndexFunc_impl_Box_impl_Box.m = true := by kernel_rfl
theorem ok271 : Mx.okFunc Tryz.prog F 271 Mx.impl_BoxNamed_1.m = true := by kernel_rfl
theorem ok228 : Mx.okFunc Tryz.prog F 228 Mx.impl_BoxNamed.m = true := by kernel_rfl
theorem ok101 : Mx.okFunc Tryz.prog F 101 Mx.impl_within.m = true := by kernel_rfl
theorem ok147 : Mx.okFunc Tryz.prog F 147 Mx.impl_isGid.m = true := by kernel_rfl
theorem ok165 : Mx.okFunc Tryz.prog F 165 Mx.impl_areGids.m = true := by kernel_rfl
theorem ok234 : Mx.okFunc Tryz.prog F 234 Mx.slices_Index_int_int.m = true := by kernel_rfl
theorem ok156 : Mx.okFunc Tryz.prog F 156 Mx.slices_Contains_int_int.m = true := by kernel_rfl
theorem ok161 : Mx.okFunc Tryz.prog F 161 Mx.slices_IndexFunc_impl_Mail_impl_Mail.m = true := by kernel_rfl
theorem ok160 : Mx.okFunc Tryz.prog F 160 Mx.impl_MailAt_1.m = true := by kernel_rfl
theorem ok72 : Mx.okFunc Tryz.prog F 72 Mx.impl_MailAt.m = true := by kernel_rfl
theorem ok89 : Mx.okFunc Tryz.prog F 89 Mx.impl_NameOk.m = true := by kernel_rfl
theorem ok164 : Mx.okFunc Tryz.prog F 164 Mx.impl_StampOk.m = true := by kernel_rfl
theorem ok272 : Mx.okFunc Tryz.prog F 272 Mx.impl_RegOk.m = true := by kernel_rfl
theorem ok235 : Mx.okFunc Tryz.prog F 235 Mx.impl_FlagsOk.m = true := by kernel_rfl
theorem ok166 : Mx.okFunc Tryz.prog F 166 Mx.impl_MailOk.m = true := by kernel_rfl
theorem ok74 : Mx.okFunc Tryz.prog F 74 Mx.impl_BoxOk.m = true := by kernel_rfl
theorem ok229 : Mx.okFunc Tryz.prog F 229 Mx.impl_isLate.m = true := by kernel_rfl
theorem ok150 : Mx.okFunc Tryz.prog F 150 Mx.impl_StoreOk.m = true := by kernel_rfl
theorem ok230 : Mx.okFunc Tryz.prog F 230 Mx.impl_VarText.m = true := by kernel_rfl
theorem ok151 : Mx.okFunc Tryz.prog F 151 Mx.impl_vars.m = true := by kernel_rfl
theorem ok205 : Mx.okFunc Tryz.prog F 205 Mx.impl_ShortText.m = true := by kernel_rfl
theorem ok102 : Mx.okFunc Tryz.prog F 102 Mx.impl_short.m = true := by kernel_rfl
theorem ok213 : Mx.okFunc Tryz.prog F 213 Mx.impl_MailText.m = true := by kernel_rfl
theorem ok123 : Mx.okFunc Tryz.prog F 123 Mx.impl_boxText.m = true := by kernel_rfl
theorem ok204 : Mx.okFunc Tryz.prog F 204 Mx.impl_four.m = true := by kernel_rfl
theorem ok249 : Mx.okFunc Tryz.prog F 249 Mx.impl_SumMore.m = true := by kernel_rfl
theorem ok203 : Mx.okFunc Tryz.prog F 203 Mx.impl_SumOf.m = true := by kernel_rfl
theorem ok103 : Mx.okFunc Tryz.prog F 103 Mx.impl_Sealed.m = true := by kernel_rfl
theorem ok61 : Mx.okFunc Tryz.prog F 61 Mx.impl_StoreText.m = true := by kernel_rfl
theorem ok236 : Mx.okFunc Tryz.prog F 236 Mx.impl_fourAt.m = true := by kernel_rfl
theorem ok168 : Mx.okFunc Tryz.prog F 168 Mx.impl_Unsealed.m = true := by kernel_rfl
theorem ok231 : Mx.okFunc Tryz.prog F 231 Mx.impl_ReadVar.m = true := by kernel_rfl
theorem ok152 : Mx.okFunc Tryz.prog F 152 Mx.impl_scan_num.m = true := by kernel_rfl
theorem ok169 : Mx.okFunc Tryz.prog F 169 Mx.impl_scan_many.m = true := by kernel_rfl
theorem ok170 : Mx.okFunc Tryz.prog F 170 Mx.impl_scan_nums.m = true := by kernel_rfl
theorem ok207 : Mx.okFunc Tryz.prog F 207 Mx.impl_ReadShort.m = true := by kernel_rfl
theorem ok153 : Mx.okFunc Tryz.prog F 153 Mx.impl_scan_short.m = true := by kernel_rfl
theorem ok222 : Mx.okFunc Tryz.prog F 222 Mx.impl_scan_stamp.m = true := by kernel_rfl
theorem ok223 : Mx.okFunc Tryz.prog F 223 Mx.impl_scan_mail.m = true := by kernel_rfl
theorem ok143 : Mx.okFunc Tryz.prog F 143 Mx.impl_scan_box.m = true := by kernel_rfl
theorem ok76 : Mx.okFunc Tryz.prog F 76 Mx.impl_ReadStore.m = true := by kernel_rfl
theorem ok202 : Mx.okFunc Tryz.prog F 202 Mx.spec_l02Four.m = true := by kernel_rfl
theorem ok248 : Mx.okFunc Tryz.prog F 248 Mx.spec_SumMore.m = true := by kernel_rfl
theorem ok201 : Mx.okFunc Tryz.prog F 201 Mx.spec_SumOf.m = true := by kernel_rfl
theorem ok100 : Mx.okFunc Tryz.prog F 100 Mx.spec_Sealed.m = true := by kernel_rfl
theorem ok99 : Mx.okFunc Tryz.prog F 99 Mx.spec_l01Var.m = true := by kernel_rfl
theorem ok122 : Mx.okFunc Tryz.prog F 122 Mx.spec_MailText.m = true := by kernel_rfl
theorem ok34 : Mx.okFunc Tryz.prog F 34 Mx.spec_BoxText.m = true := by kernel_rfl
theorem ok60 : Mx.okFunc Tryz.prog F 60 Mx.spec_StoreText.m = true := by kernel_rfl
theorem ok167 : Mx.okFunc Tryz.prog F 167 Mx.spec_Unsealed.m = true := by kernel_rfl
theorem ok465 : Mx.okFunc Tryz.prog F 465 Mx.spec_l01Text.m = true := by kernel_rfl
theorem ok444 : Mx.okFunc Tryz.prog F 444 Mx.spec_l02Spoilt.m = true := by kernel_rfl
theorem ok417 : Mx.okFunc Tryz.prog F 417 Mx.spec_DrawReadStore.m = true := by kernel_rfl
theorem ok221 : Mx.okFunc Tryz.prog F 221 Mx.spec_ReadVar.m = true := by kernel_rfl
theorem ok139 : Mx.okFunc Tryz.prog F 139 Mx.spec_l05Var.m = true := by kernel_rfl
theorem ok142 : Mx.okFunc Tryz.prog F 142 Mx.spec_l10Ints.m = true := by kernel_rfl
theorem ok206 : Mx.okFunc Tryz.prog F 206 Mx.spec_ReadShort.m = true := by kernel_rfl
theorem ok140 : Mx.okFunc Tryz.prog F 140 Mx.spec_l05Short.m = true := by kernel_rfl
theorem ok141 : Mx.okFunc Tryz.prog F 141 Mx.spec_ReadMail.m = true := by kernel_rfl
theorem ok52 : Mx.okFunc Tryz.prog F 52 Mx.spec_ReadBox.m = true := by kernel_rfl
theorem ok75 : Mx.okFunc Tryz.prog F 75 Mx.spec_ReadStore.m = true := by kernel_rfl
theorem ok418 : Mx.okFunc Tryz.prog F 418 Mx.spec_DrawBoxText.m = true := by kernel_rfl
theorem ok35 : Mx.okFunc Tryz.prog F 35 Mx.impl_BoxText.m = true := by kernel_rfl
theorem ok53 : Mx.okFunc Tryz.prog F 53 Mx.impl_ReadBox.m = true := by kernel_rfl
theorem ok419 : Mx.okFunc Tryz.prog F 419 Mx.spec_DrawReadBox.m = true := by kernel_rfl
theorem ok420 : Mx.okFunc Tryz.prog F 420 Mx.spec_DrawSameStore.m = true := by kernel_rfl
theorem ok159 : Mx.okFunc Tryz.prog F 159 Mx.spec_SameMail.m = true := by kernel_rfl
theorem ok116 : Mx.okFunc Tryz.prog F 116 Mx.spec_l09Box.m = true := by kernel_rfl
theorem ok31 : Mx.okFunc Tryz.prog F 31 Mx.spec_Alike.m = true := by kernel_rfl
theorem ok421 : Mx.okFunc Tryz.prog F 421 Mx.laws_sameAll.m = true := by kernel_rfl
theorem ok158 : Mx.okFunc Tryz.prog F 158 Mx.laws_sameInts.m = true := by kernel_rfl
theorem ok71 : Mx.okFunc Tryz.prog F 71 Mx.laws_sameBox.m = true := by kernel_rfl
theorem ok63 : Mx.okFunc Tryz.prog F 63 Mx.impl_SameStore.m = true := by kernel_rfl
theorem ok62 : Mx.okFunc Tryz.prog F 62 Mx.spec_SameStore.m = true := by kernel_rfl
theorem ok396 : Mx.okFunc Tryz.prog F 396 Mx.laws_FnTexts.m = true := by kernel_rfl
theorem table : Mx.TableOk Tryz.prog F M := by
  refine Mx.table_list ?_
  · simp only [tab, List.forall_mem_cons]
    exact ⟨ok36, ok131, ok125, ok241, ok238, ok180, ok185, ok174, ok98, ok186, ok132, ok90, ok183, ok276, ok242, ok187, ok91, ok88, ok181, ok81, ok277, ok243, ok184, ok84, ok133, ok86, ok232, ok154, ok298, ok273, ok179, ok177, ok299, ok274, ok176, ok237, ok173, ok219, ok226, ok227, ok149, ok196, ok300, ok301, ok278, ok282, ok283, ok302, ok279, ok280, ok281, ok175, ok244, ok113, ok188, ok443, ok124, ok416, ok200, ok271, ok228, ok101, ok147, ok165, ok234, ok156, ok161, ok160, ok72, ok89, ok164, ok272, ok235, ok166, ok74, ok229, ok150, ok230, ok151, ok205, ok102, ok213, ok123, ok204, ok249, ok203, ok103, ok61, ok236, ok168, ok231, ok152, ok169, ok170, ok207, ok153, ok222, ok223, ok143, ok76, ok202, ok248, ok201, ok100, ok99, ok122, ok34, ok60, ok167, ok465, ok444, ok417, ok221, ok139, ok142, ok206, ok140, ok141, ok52, ok75, ok418, ok35, ok53, ok419, ok420, ok159, ok116, ok31, ok421, ok158, ok71, ok63, ok62, ok396, by simp⟩
theorem k36 : Mx.laws_big.k M := rfl
theorem k131 : Mx.spec_l01Byte.k M := rfl
theorem k125 : Mx.spec_l01Below.k M := ⟨rfl, k131⟩
theorem k241 : Mx.spec_l04Copy.k M := rfl
theorem k238 : Mx.spec_l05Copy.k M := ⟨rfl, k241⟩
theorem k180 : Mx.spec_l06Copy.k M := ⟨rfl, k238⟩
theorem k185 : Mx.spec_l01Pick.k M := ⟨rfl, k125⟩
theorem k174 : Mx.spec_l05Text.k M := ⟨rfl, k185⟩
theorem k98 : Mx.spec_l01In.k M := rfl
theorem k186 : Mx.spec_l06Sorted.k M := ⟨rfl, k98⟩
theorem k132 : Mx.spec_l06In.k M := rfl
theorem k90 : Mx.spec_NameOk.k M := ⟨rfl, k98⟩
theorem k183 : Mx.spec_StampOk.k M := ⟨rfl, k98⟩
theorem k276 : Mx.spec_RegOk.k M := ⟨rfl, k98, k183⟩
theorem k242 : Mx.spec_FlagsOk.k M := ⟨rfl, k276⟩
theorem k187 : Mx.spec_MailOk.k M := ⟨rfl, k98, k242⟩
theorem k91 : Mx.spec_MailAt.k M := rfl
theorem k88 : Mx.spec_BoxOk.k M := ⟨rfl, k90, k91, k98, k132, k183, k186, k187⟩
theorem k181 : Mx.spec_FlagsNew.k M := rfl
theorem k81 : Mx.spec_AddMail.k M := ⟨rfl, k88, k91, k98, k132, k180, k181⟩
theorem k277 : Mx.spec_Later.k M := rfl
theorem k243 : Mx.spec_PutReg.k M := ⟨rfl, k276, k277⟩
theorem k184 : Mx.spec_SetFlags.k M := ⟨rfl, k98, k241, k242, k243⟩
theorem k84 : Mx.spec_FlagMail.k M := ⟨rfl, k88, k91, k98, k180, k183, k184⟩
theorem k133 : Mx.spec_l06Put.k M := rfl
theorem k86 : Mx.spec_TakeOut.k M := ⟨rfl, k88, k91, k133, k180⟩
theorem k232 : Mx.spec_l03Stamp.k M := ⟨rfl, k125⟩
theorem k154 : Mx.spec_l06Box.k M := ⟨rfl, k81, k84, k86, k125, k174, k185, k232⟩
theorem k298 : Mx.spec_l04Flags.k M := ⟨rfl, k125, k232⟩
theorem k273 : Mx.spec_l05Mail.k M := ⟨rfl, k125, k174, k298⟩
theorem k179 : Mx.spec_l01PickInt.k M := ⟨rfl, k125⟩
theorem k177 : Mx.spec_l03Any.k M := ⟨rfl, k125, k179, k232⟩
theorem k299 : Mx.spec_l03Reg.k M := ⟨rfl, k177, k179⟩
theorem k274 : Mx.spec_l04Any.k M := ⟨rfl, k125, k298, k299⟩
theorem k176 : Mx.spec_l01Long.k M := rfl
theorem k237 : Mx.spec_l05Any.k M := ⟨rfl, k125, k176, k273, k274⟩
theorem k173 : Mx.spec_l06Any.k M := ⟨rfl, k125, k154, k177, k180, k237⟩
theorem k219 : Mx.spec_l07Copy.k M := ⟨rfl, k180⟩
theorem k226 : Mx.spec_BoxNamed.k M := rfl
theorem k227 : Mx.spec_l07Times.k M := rfl
theorem k149 : Mx.spec_StoreOk.k M := ⟨rfl, k88, k98, k132, k186, k226, k227⟩
theorem k196 : Mx.spec_BoxAt.k M := rfl
theorem k300 : Mx.spec_Knows.k M := ⟨rfl, k91, k132, k196⟩
theorem k301 : Mx.spec_NextStamp.k M := rfl
theorem k278 : Mx.spec_MakeBox.k M := ⟨rfl, k149, k180, k219, k226, k300, k301⟩
theorem k282 : Mx.spec_RenameBox.k M := ⟨rfl, k149, k196, k219, k226, k301⟩
theorem k283 : Mx.spec_DropBox.k M := ⟨rfl, k133, k149, k196, k219⟩
theorem k302 : Mx.spec_l07Stamped.k M := ⟨rfl, k149, k219⟩
theorem k279 : Mx.spec_PutMail.k M := ⟨rfl, k81, k149, k196, k219, k300, k301, k302⟩
theorem k280 : Mx.spec_MarkMail.k M := ⟨rfl, k84, k149, k196, k219, k301, k302⟩
theorem k281 : Mx.spec_DropMail.k M := ⟨rfl, k86, k149, k196, k219⟩
theorem k175 : Mx.spec_l01Once.k M := ⟨rfl, k125⟩
theorem k244 : Mx.spec_l07Use.k M := ⟨rfl, k125, k174, k175, k185, k278, k279, k280, k281, k282, k283⟩
theorem k113 : Mx.spec_StoreNew.k M := rfl
theorem k188 : Mx.spec_l07Store.k M := ⟨rfl, k113, k125, k244⟩
theorem k443 : Mx.spec_l07Any.k M := ⟨rfl, k125, k173, k188, k219⟩
theorem k124 : Mx.spec_l01New.k M := rfl
theorem k416 : Mx.spec_DrawStoreText.k M := ⟨rfl, k124, k443⟩
theorem k200 : Mx.slices_IndexFunc_impl_Box_impl_Box.k M := rfl
theorem k271 : Mx.impl_BoxNamed_1.k M := rfl
theorem k228 : Mx.impl_BoxNamed.k M := ⟨rfl, k200, k271⟩
theorem k101 : Mx.impl_within.k M := rfl
theorem k147 : Mx.impl_isGid.k M := ⟨rfl, k101⟩
theorem k165 : Mx.impl_areGids.k M := ⟨rfl, k147⟩
theorem k234 : Mx.slices_Index_int_int.k M := rfl
theorem k156 : Mx.slices_Contains_int_int.k M := ⟨rfl, k234⟩
theorem k161 : Mx.slices_IndexFunc_impl_Mail_impl_Mail.k M := rfl
theorem k160 : Mx.impl_MailAt_1.k M := rfl
theorem k72 : Mx.impl_MailAt.k M := ⟨rfl, k160, k161⟩
theorem k89 : Mx.impl_NameOk.k M := ⟨rfl, k101⟩
theorem k164 : Mx.impl_StampOk.k M := ⟨rfl, k101⟩
theorem k272 : Mx.impl_RegOk.k M := ⟨rfl, k101, k164⟩
theorem k235 : Mx.impl_FlagsOk.k M := ⟨rfl, k272⟩
theorem k166 : Mx.impl_MailOk.k M := ⟨rfl, k147, k235⟩
theorem k74 : Mx.impl_BoxOk.k M := ⟨rfl, k72, k89, k101, k147, k156, k164, k165, k166⟩
theorem k229 : Mx.impl_isLate.k M := rfl
theorem k150 : Mx.impl_StoreOk.k M := ⟨rfl, k74, k101, k156, k165, k228, k229⟩
theorem k230 : Mx.impl_VarText.k M := ⟨rfl, k101⟩
theorem k151 : Mx.impl_vars.k M := ⟨rfl, k230⟩
theorem k205 : Mx.impl_ShortText.k M := ⟨rfl, k230⟩
theorem k102 : Mx.impl_short.k M := ⟨rfl, k205⟩
theorem k213 : Mx.impl_MailText.k M := ⟨rfl, k102, k151, k166⟩
theorem k123 : Mx.impl_boxText.k M := ⟨rfl, k102, k151, k213⟩
theorem k204 : Mx.impl_four.k M := rfl
theorem k249 : Mx.impl_SumMore.k M := rfl
theorem k203 : Mx.impl_SumOf.k M := ⟨rfl, k249⟩
theorem k103 : Mx.impl_Sealed.k M := ⟨rfl, k203, k204⟩
theorem k61 : Mx.impl_StoreText.k M := ⟨rfl, k103, k123, k150, k151⟩
theorem k236 : Mx.impl_fourAt.k M := rfl
theorem k168 : Mx.impl_Unsealed.k M := ⟨rfl, k101, k203, k236⟩
theorem k231 : Mx.impl_ReadVar.k M := ⟨rfl, k101, k230⟩
theorem k152 : Mx.impl_scan_num.k M := ⟨rfl, k231⟩
theorem k169 : Mx.impl_scan_many.k M := ⟨rfl, k152⟩
theorem k170 : Mx.impl_scan_nums.k M := ⟨rfl, k152, k169⟩
theorem k207 : Mx.impl_ReadShort.k M := ⟨rfl, k231⟩
theorem k153 : Mx.impl_scan_short.k M := ⟨rfl, k207⟩
theorem k222 : Mx.impl_scan_stamp.k M := ⟨rfl, k152⟩
theorem k223 : Mx.impl_scan_mail.k M := ⟨rfl, k152, k153, k222⟩
theorem k143 : Mx.impl_scan_box.k M := ⟨rfl, k152, k153, k169, k170, k222, k223⟩
theorem k76 : Mx.impl_ReadStore.k M := ⟨rfl, k143, k150, k152, k168, k169, k170⟩
theorem k202 : Mx.spec_l02Four.k M := rfl
theorem k248 : Mx.spec_SumMore.k M := rfl
theorem k201 : Mx.spec_SumOf.k M := ⟨rfl, k248⟩
theorem k100 : Mx.spec_Sealed.k M := ⟨rfl, k201, k202⟩
theorem k99 : Mx.spec_l01Var.k M := rfl
theorem k122 : Mx.spec_MailText.k M := ⟨rfl, k99, k187⟩
theorem k34 : Mx.spec_BoxText.k M := ⟨rfl, k88, k99, k122⟩
theorem k60 : Mx.spec_StoreText.k M := ⟨rfl, k34, k99, k100, k149⟩
theorem k167 : Mx.spec_Unsealed.k M := ⟨rfl, k201, k202⟩
theorem k465 : Mx.spec_l01Text.k M := ⟨rfl, k131⟩
theorem k444 : Mx.spec_l02Spoilt.k M := ⟨rfl, k125, k465⟩
theorem k417 : Mx.spec_DrawReadStore.k M := ⟨rfl, k60, k100, k124, k125, k167, k443, k444⟩
theorem k221 : Mx.spec_ReadVar.k M := ⟨rfl, k98, k99⟩
theorem k139 : Mx.spec_l05Var.k M := ⟨rfl, k221⟩
theorem k142 : Mx.spec_l10Ints.k M := ⟨rfl, k139⟩
theorem k206 : Mx.spec_ReadShort.k M := ⟨rfl, k221⟩
theorem k140 : Mx.spec_l05Short.k M := ⟨rfl, k206⟩
theorem k141 : Mx.spec_ReadMail.k M := ⟨rfl, k139, k140, k187⟩
theorem k52 : Mx.spec_ReadBox.k M := ⟨rfl, k88, k139, k140, k141, k142⟩
theorem k75 : Mx.spec_ReadStore.k M := ⟨rfl, k52, k60, k139, k142, k167⟩
theorem k418 : Mx.spec_DrawBoxText.k M := ⟨rfl, k124, k173⟩
theorem k35 : Mx.impl_BoxText.k M := ⟨rfl, k74, k123⟩
theorem k53 : Mx.impl_ReadBox.k M := ⟨rfl, k74, k143⟩
theorem k419 : Mx.spec_DrawReadBox.k M := ⟨rfl, k34, k124, k125, k173, k444⟩
theorem k420 : Mx.spec_DrawSameStore.k M := ⟨rfl, k124, k175, k219, k443⟩
theorem k159 : Mx.spec_SameMail.k M := rfl
theorem k116 : Mx.spec_l09Box.k M := ⟨rfl, k159⟩
theorem k31 : Mx.spec_Alike.k M := ⟨rfl, k116⟩
theorem k421 : Mx.laws_sameAll.k M := ⟨rfl, k31⟩
theorem k158 : Mx.laws_sameInts.k M := rfl
theorem k71 : Mx.laws_sameBox.k M := ⟨rfl, k158, k159⟩
theorem k63 : Mx.impl_SameStore.k M := ⟨rfl, k61⟩
theorem k62 : Mx.spec_SameStore.k M := ⟨rfl, k60⟩
theorem k396 : Mx.laws_FnTexts.k M := ⟨rfl, k35, k36, k52, k53, k61, k62, k63, k71, k75, k76, k88, k149, k416, k417, k418, k419, k420, k421⟩

end Go.Proofs.YtfibgklkcjpmgaaGreat.fnTexts

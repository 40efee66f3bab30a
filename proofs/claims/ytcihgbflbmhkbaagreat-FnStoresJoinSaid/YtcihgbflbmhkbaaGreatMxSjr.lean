/-
  Toward: at every input FnStoresJoin returns true, and its arguments read as they did. No condition.
-/
import Derived.Test.YtcihgbflbmhkbaaGreatRows
import Derived.Shelf.Sort.Plain
import Derived.Shelf.Slices.In.SortNone
import Derived.Shelf.Slices.CompactI
import Derived.Test.YtcihgbflbmhkbaaGreatMxSje
set_option linter.unusedSimpArgs false
set_option linter.unusedVariables false
namespace Go.Proofs.YtcihgbflbmhkbaaGreat.fnStoresJoin
open Go.ChangeShapes Go.WideShapes Go.ChangeAt Go.RowKit
set_option linter.unusedVariables false
def num : List (Nat × Nat) := [(36, 9), (132, 58), (133, 79), (43, 56), (474, 146), (241, 275), (238, 213), (180, 148), (277, 211), (91, 210), (459, 270), (460, 271), (488, 316), (472, 302), (461, 272), (22, 273), (462, 274), (439, 212), (405, 147), (247, 276), (197, 214), (475, 149), (466, 57), (446, 16), (98, 116), (186, 141), (90, 198), (183, 208), (276, 301), (242, 269), (187, 209), (88, 142), (226, 143), (227, 144), (149, 54), (131, 68), (125, 69), (113, 93), (219, 77), (196, 78), (283, 27), (300, 180), (301, 181), (278, 102), (282, 103), (181, 240), (81, 182), (302, 183), (279, 104), (243, 289), (184, 241), (84, 184), (280, 105), (86, 185), (281, 106), (175, 122), (185, 199), (174, 200), (244, 121), (511, 46), (124, 47), (503, 10), (134, 123), (44, 48), (200, 91), (477, 127), (476, 126), (239, 266), (233, 205), (155, 129), (275, 203), (161, 216), (160, 217), (72, 152), (485, 312), (470, 298), (452, 258), (20, 259), (453, 260), (234, 138), (156, 50), (454, 261), (486, 313), (471, 299), (455, 262), (457, 134), (456, 263), (23, 264), (458, 265), (437, 204), (401, 128), (478, 130), (479, 131), (492, 267), (490, 206), (480, 132), (481, 133), (482, 135), (483, 136), (128, 154), (484, 137), (467, 49), (447, 11), (101, 59), (147, 118), (165, 60), (89, 119), (164, 150), (272, 277), (235, 215), (166, 151), (74, 61), (271, 153), (228, 62), (229, 63), (150, 17), (433, 12), (118, 51), (120, 53), (211, 139), (253, 207), (212, 140), (119, 52), (32, 13), (432, 14), (159, 145), (116, 55), (31, 15), (512, 64), (513, 65), (514, 66), (504, 18), (497, 3), (135, 124), (136, 125), (487, 314), (493, 268)]
def tab : List (Nat × Mx.Fn) := [(36, Mx.laws_big.m), (132, Mx.spec_l06In.m), (133, Mx.spec_l06Put.m), (43, Mx.spec_JoinGone.m), (474, Mx.spec_l09At.m), (241, Mx.spec_l04Copy.m), (238, Mx.spec_l05Copy.m), (180, Mx.spec_l06Copy.m), (277, Mx.spec_Later.m), (91, Mx.spec_MailAt.m), (459, Mx.spec_l08Next.m), (460, Mx.spec_l08Gids.m), (488, Mx.spec_JoinReg.m), (472, Mx.spec_JoinFlags.m), (461, Mx.spec_JoinMail.m), (22, Mx.spec_KeepsUid.m), (462, Mx.spec_l08Put.m), (439, Mx.spec_l08Join.m), (405, Mx.spec_JoinBox.m), (247, Mx.spec_l01Figure.m), (197, Mx.spec_Decimal.m), (475, Mx.spec_OtherName.m), (466, Mx.spec_JoinBoxes.m), (446, Mx.spec_JoinStore.m), (98, Mx.spec_l01In.m), (186, Mx.spec_l06Sorted.m), (90, Mx.spec_NameOk.m), (183, Mx.spec_StampOk.m), (276, Mx.spec_RegOk.m), (242, Mx.spec_FlagsOk.m), (187, Mx.spec_MailOk.m), (88, Mx.spec_BoxOk.m), (226, Mx.spec_BoxNamed.m), (227, Mx.spec_l07Times.m), (149, Mx.spec_StoreOk.m), (131, Mx.spec_l01Byte.m), (125, Mx.spec_l01Below.m), (113, Mx.spec_StoreNew.m), (219, Mx.spec_l07Copy.m), (196, Mx.spec_BoxAt.m), (283, Mx.spec_DropBox.m), (300, Mx.spec_Knows.m), (301, Mx.spec_NextStamp.m), (278, Mx.spec_MakeBox.m), (282, Mx.spec_RenameBox.m), (181, Mx.spec_FlagsNew.m), (81, Mx.spec_AddMail.m), (302, Mx.spec_l07Stamped.m), (279, Mx.spec_PutMail.m), (243, Mx.spec_PutReg.m), (184, Mx.spec_SetFlags.m), (84, Mx.spec_FlagMail.m), (280, Mx.spec_MarkMail.m), (86, Mx.spec_TakeOut.m), (281, Mx.spec_DropMail.m), (175, Mx.spec_l01Once.m), (185, Mx.spec_l01Pick.m), (174, Mx.spec_l05Text.m), (244, Mx.spec_l07Use.m), (511, Mx.spec_l09Two.m), (124, Mx.spec_l01New.m), (503, Mx.spec_DrawTwoStores.m), (134, Mx.impl_copyInts.m), (44, Mx.impl_JoinGone.m), (200, Mx.slices_IndexFunc_impl_Box_impl_Box.m), (477, Mx.impl_JoinBoxes_1_1.m), (476, Mx.impl_JoinBoxes_1.m), (239, Mx.impl_copyRegs.m), (233, Mx.impl_copyMail.m), (155, Mx.impl_copyBox.m), (275, Mx.impl_Later.m), (161, Mx.slices_IndexFunc_impl_Mail_impl_Mail.m), (160, Mx.impl_MailAt_1.m), (72, Mx.impl_MailAt.m), (485, Mx.impl_JoinReg.m), (470, Mx.impl_JoinFlags.m), (452, Mx.impl_JoinMail.m), (20, Mx.impl_Holds.m), (453, Mx.slices_DeleteFunc_impl_Mail_impl_Mail.m), (234, Mx.slices_Index_int_int.m), (156, Mx.slices_Contains_int_int.m), (454, Mx.impl_joined_1.m), (486, Mx.slices_insertionSortCmpFunc_impl_Mail.m), (471, Mx.slices_stableCmpFunc_impl_Mail.m), (455, Mx.slices_SortStableFunc_impl_Mail_impl_Mail.m), (457, Mx.impl_compare.m), (456, Mx.impl_joined_2.m), (23, Mx.impl_KeepsUid.m), (458, Mx.impl_joined_3.m), (437, Mx.impl_joined.m), (401, Mx.impl_JoinBox.m), (478, Mx.slices_DeleteFunc_impl_Box_impl_Box.m), (479, Mx.impl_JoinBoxes_2.m), (492, Mx.slices_insertionSortCmpFunc_impl_Box.m), (490, Mx.slices_stableCmpFunc_impl_Box.m), (480, Mx.slices_SortStableFunc_impl_Box_impl_Box.m), (481, Mx.impl_JoinBoxes_3.m), (482, Mx.slices_ContainsFunc_impl_Box_impl_Box.m), (483, Mx.impl_JoinBoxes_4.m), (128, Mx.impl_Decimal.m), (484, Mx.impl_OtherName.m), (467, Mx.impl_JoinBoxes.m), (447, Mx.impl_JoinStore.m), (101, Mx.impl_within.m), (147, Mx.impl_isGid.m), (165, Mx.impl_areGids.m), (89, Mx.impl_NameOk.m), (164, Mx.impl_StampOk.m), (272, Mx.impl_RegOk.m), (235, Mx.impl_FlagsOk.m), (166, Mx.impl_MailOk.m), (74, Mx.impl_BoxOk.m), (271, Mx.impl_BoxNamed_1.m), (228, Mx.impl_BoxNamed.m), (229, Mx.impl_isLate.m), (150, Mx.impl_StoreOk.m), (433, Mx.impl_FitsStore.m), (118, Mx.slices_EqualFunc_impl_Box_impl_Box_impl_Box_impl_Box.m), (120, Mx.slices_Equal_int_int.m), (211, Mx.slices_EqualFunc_impl_Mail_impl_Mail_impl_Mail_impl_Mail.m), (253, Mx.slices_Equal_impl_Reg_impl_Reg.m), (212, Mx.impl_SameMail.m), (119, Mx.impl_sameBox.m), (32, Mx.impl_Alike.m), (432, Mx.spec_FitsStore.m), (159, Mx.spec_SameMail.m), (116, Mx.spec_l09Box.m), (31, Mx.spec_Alike.m), (512, Mx.impl_told.m), (513, Mx.impl_Hex.m), (514, Mx.impl_FlagsOf.m), (504, Mx.impl_SaidOf.m), (497, Mx.laws_FnStoresJoin.m)]
def F : Nat → FuncId := Mx.tabF num
def exts : List (Nat × (List Mx.V → List (Nat × Mx.Ob) → Option (Mx.V × List (Nat × Mx.Ob)))) := [(135, Mx.sortG), (136, Mx.compactG)]
def M : Nat → Option Mx.Body := Mx.tabZ tab exts
/-- the numbers of the library's functions and types here -/
def rho20 : Go.Shelf.Ren := { f := fun n => if n = 20 then 125 else n, t := fun n => if n = 22 then 25 else n, g := fun n => n }
theorem lays20 : Go.Proofs.Lays2.n20 Tryz.prog rho20 where
  mixed := by kernel_rfl
  f20 := Tryz.func125.trans (congrArg some (by kernel_rfl))
  t0 := by kernel_rfl
  a0 := fun w => by kernel_rfl
  z0 := fun w => by kernel_rfl
  v0 := fun w => by kernel_rfl
  t3 := by kernel_rfl
  a3 := fun w => by kernel_rfl
  z3 := fun w => by kernel_rfl
  v3 := fun w => by kernel_rfl
  t4 := by kernel_rfl
  a4 := fun w => by kernel_rfl
  z4 := fun w => by kernel_rfl
  v4 := fun w => by kernel_rfl
  t22 := by kernel_rfl
  a22 := fun w => by kernel_rfl
  z22 := fun w => by kernel_rfl
  v22 := fun w => by kernel_rfl
  i3 := by kernel_rfl
/-- the numbers of the library's functions and types here -/
def rho189 : Go.Shelf.Ren := { f := fun n => if n = 189 then 124 else if n = 125 then 202 else if n = 257 then 201 else if n = 128 then 256 else if n = 129 then 257 else if n = 294 then 247 else if n = 295 then 248 else if n = 296 then 249 else if n = 297 then 250 else if n = 298 then 251 else if n = 299 then 252 else if n = 216 then 253 else if n = 300 then 254 else if n = 301 then 255 else if n = 328 then 292 else if n = 329 then 293 else if n = 330 then 294 else if n = 331 then 295 else if n = 332 then 296 else if n = 215 then 297 else if n = 343 then 311 else n, t := fun n => if n = 28 then 25 else if n = 46 then 151 else if n = 51 then 210 else if n = 53 then 232 else if n = 183 then 223 else if n = 182 then 222 else if n = 131 then 228 else if n = 218 then 255 else if n = 222 then 259 else if n = 228 then 268 else if n = 229 then 269 else n, g := fun n => n }
theorem lays189 : Go.Proofs.Lays.n189 Tryz.prog rho189 where
  mixed := by kernel_rfl
  f125 := Tryz.func202.trans (congrArg some (by kernel_rfl))
  f128 := Tryz.func256.trans (congrArg some (by kernel_rfl))
  f129 := Tryz.func257.trans (congrArg some (by kernel_rfl))
  f189 := Tryz.func124.trans (congrArg some (by kernel_rfl))
  f215 := Tryz.func297.trans (congrArg some (by kernel_rfl))
  f216 := Tryz.func253.trans (congrArg some (by kernel_rfl))
  f257 := Tryz.func201.trans (congrArg some (by kernel_rfl))
  f294 := Tryz.func247.trans (congrArg some (by kernel_rfl))
  f295 := Tryz.func248.trans (congrArg some (by kernel_rfl))
  f296 := Tryz.func249.trans (congrArg some (by kernel_rfl))
  f297 := Tryz.func250.trans (congrArg some (by kernel_rfl))
  f298 := Tryz.func251.trans (congrArg some (by kernel_rfl))
  f299 := Tryz.func252.trans (congrArg some (by kernel_rfl))
  f300 := Tryz.func254.trans (congrArg some (by kernel_rfl))
  f301 := Tryz.func255.trans (congrArg some (by kernel_rfl))
  f328 := Tryz.func292.trans (congrArg some (by kernel_rfl))
  f329 := Tryz.func293.trans (congrArg some (by kernel_rfl))
  f330 := Tryz.func294.trans (congrArg some (by kernel_rfl))
  f331 := Tryz.func295.trans (congrArg some (by kernel_rfl))
  f332 := Tryz.func296.trans (congrArg some (by kernel_rfl))
  f343 := Tryz.func311.trans (congrArg some (by kernel_rfl))
  t0 := by kernel_rfl
  a0 := fun w => by kernel_rfl
  z0 := fun w => by kernel_rfl
  v0 := fun w => by kernel_rfl
  t3 := by kernel_rfl
  a3 := fun w => by kernel_rfl
  z3 := fun w => by kernel_rfl
  v3 := fun w => by kernel_rfl
  t4 := by kernel_rfl
  a4 := fun w => by kernel_rfl
  z4 := fun w => by kernel_rfl
  v4 := fun w => by kernel_rfl
  t5 := by kernel_rfl
  a5 := fun w => by kernel_rfl
  z5 := fun w => by kernel_rfl
  v5 := fun w => by kernel_rfl
  t9 := by kernel_rfl
  a9 := fun w => by kernel_rfl
  z9 := fun w => by kernel_rfl
  v9 := fun w => by kernel_rfl
  t28 := by kernel_rfl
  a28 := fun w => by kernel_rfl
  z28 := fun w => by kernel_rfl
  v28 := fun w => by kernel_rfl
  t46 := by kernel_rfl
  a46 := fun w => by kernel_rfl
  z46 := fun w => by kernel_rfl
  v46 := fun w => by kernel_rfl
  t51 := by kernel_rfl
  a51 := fun w => by kernel_rfl
  z51 := fun w => by kernel_rfl
  v51 := fun w => by kernel_rfl
  t53 := by kernel_rfl
  a53 := fun w => by kernel_rfl
  z53 := fun w => by kernel_rfl
  v53 := fun w => by kernel_rfl
  t131 := by kernel_rfl
  a131 := fun w => by kernel_rfl
  z131 := fun w => by kernel_rfl
  v131 := fun w => by kernel_rfl
  t182 := by kernel_rfl
  a182 := fun w => by kernel_rfl
  z182 := fun w => by kernel_rfl
  v182 := fun w => by kernel_rfl
  t183 := by kernel_rfl
  a183 := fun w => by kernel_rfl
  z183 := fun w => by kernel_rfl
  v183 := fun w => by kernel_rfl
  t218 := by kernel_rfl
  a218 := fun w => by kernel_rfl
  z218 := fun w => by kernel_rfl
  v218 := fun w => by kernel_rfl
  t222 := by kernel_rfl
  a222 := fun w => by kernel_rfl
  z222 := fun w => by kernel_rfl
  v222 := fun w => by kernel_rfl
  t228 := by kernel_rfl
  a228 := fun w => by kernel_rfl
  z228 := fun w => by kernel_rfl
  v228 := fun w => by kernel_rfl
  t229 := by kernel_rfl
  a229 := fun w => by kernel_rfl
  z229 := fun w => by kernel_rfl
  v229 := fun w => by kernel_rfl
theorem ext135 : Mx.ExtOk Tryz.prog F 135 Mx.sortG :=
  Mx.ext_sort (by kernel_rfl) (fun p cap w => Go.Proofs.Any.slices_Sort_int_none lays189 p cap w) (fun blk off cap zs w h1 h2 h3 => Go.Proofs.Any.slices_Sort_int lays189 blk off cap zs w h1 h2 h3)
theorem ext136 : Mx.ExtOk Tryz.prog F 136 Mx.compactG :=
  Mx.ext_compact (by kernel_rfl) (fun p cap w => Go.Proofs.Any.slices_Compact_int_empty lays20 p cap w) (fun blk off cap zs w h1 h2 h3 => Go.Proofs.Any.slices_Compact_int lays20 blk off cap zs w h1 h2 h3) Mx.compact_len
theorem ok36 : Mx.okFunc Tryz.prog F 36 Mx.laws_big.m = true := by kernel_rfl
theorem ok132 : Mx.okFunc Tryz.prog F 132 Mx.spec_l06In.m = true := by kernel_rfl
theorem ok133 : Mx.okFunc Tryz.prog F 133 Mx.spec_l06Put.m = true := by kernel_rfl
theorem ok43 : Mx.okFunc Tryz.prog F 43 Mx.spec_JoinGone.m = true := by kernel_rfl
theorem ok474 : Mx.okFunc Tryz.prog F 474 Mx.spec_l09At.m = true := by kernel_rfl
theorem ok241 : Mx.okFunc Tryz.prog F 241 Mx.spec_l04Copy.m = true := by kernel_rfl
theorem ok238 : Mx.okFunc Tryz.prog F 238 Mx.spec_l05Copy.m = true := by kernel_rfl
theorem ok180 : Mx.okFunc Tryz.prog F 180 Mx.spec_l06Copy.m = true := by kernel_rfl
theorem ok277 : Mx.okFunc Tryz.prog F 277 Mx.spec_Later.m = true := by kernel_rfl
theorem ok91 : Mx.okFunc Tryz.prog F 91 Mx.spec_MailAt.m = true := by kernel_rfl
theorem ok459 : Mx.okFunc Tryz.prog F 459 Mx.spec_l08Next.m = true := by kernel_rfl
theorem ok460 : Mx.okFunc Tryz.prog F 460 Mx.spec_l08Gids.m = true := by kernel_rfl
theorem ok488 : Mx.okFunc Tryz.prog F 488 Mx.spec_JoinReg.m = true := by kernel_rfl
theorem ok472 : Mx.okFunc Tryz.prog F 472 Mx.spec_JoinFlags.m = true := by kernel_rfl
theorem ok461 : Mx.okFunc Tryz.prog F 461 Mx.spec_JoinMail.m = true := by kernel_rfl
theorem ok22 : Mx.okFunc Tryz.prog F 22 Mx.spec_KeepsUid.m = true := by kernel_rfl
theorem ok462 : Mx.okFunc Tryz.prog F 462 Mx.spec_l08Put.m = true := by kernel_rfl
theorem ok439 : Mx.okFunc Tryz.prog F 439 Mx.spec_l08Join.m = true := by kernel_rfl
theorem ok405 : Mx.okFunc Tryz.prog F 405 Mx.spec_JoinBox.m = true := by kernel_rfl
theorem ok247 : Mx.okFunc Tryz.prog F 247 Mx.spec_l01Figure.m = true := by kernel_rfl
theorem ok197 : Mx.okFunc Tryz.prog F 197 Mx.spec_Decimal.m = true := by kernel_rfl
theorem ok475 : Mx.okFunc Tryz.prog F 475 Mx.spec_OtherName.m = true := by kernel_rfl
theorem ok466 : Mx.okFunc Tryz.prog F 466 Mx.spec_JoinBoxes.m = true := by kernel_rfl
theorem ok446 : Mx.okFunc Tryz.prog F 446 Mx.spec_JoinStore.m = true := by kernel_rfl
theorem ok98 : Mx.okFunc Tryz.prog F 98 Mx.spec_l01In.m = true := by kernel_rfl
theorem ok186 : Mx.okFunc Tryz.prog F 186 Mx.spec_l06Sorted.m = true := by kernel_rfl
theorem ok90 : Mx.okFunc Tryz.prog F 90 Mx.spec_NameOk.m = true := by kernel_rfl
theorem ok183 : Mx.okFunc Tryz.prog F 183 Mx.spec_StampOk.m = true := by kernel_rfl
theorem ok276 : Mx.okFunc Tryz.prog F 276 Mx.spec_RegOk.m = true := by kernel_rfl
theorem ok242 : Mx.okFunc Tryz.prog F 242 Mx.spec_FlagsOk.m = true := by kernel_rfl
theorem ok187 : Mx.okFunc Tryz.prog F 187 Mx.spec_MailOk.m = true := by kernel_rfl
theorem ok88 : Mx.okFunc Tryz.prog F 88 Mx.spec_BoxOk.m = true := by kernel_rfl
theorem ok226 : Mx.okFunc Tryz.prog F 226 Mx.spec_BoxNamed.m = true := by kernel_rfl
theorem ok227 : Mx.okFunc Tryz.prog F 227 Mx.spec_l07Times.m = true := by kernel_rfl
theorem ok149 : Mx.okFunc Tryz.prog F 149 Mx.spec_StoreOk.m = true := by kernel_rfl
theorem ok131 : Mx.okFunc Tryz.prog F 131 Mx.spec_l01Byte.m = true := by kernel_rfl
theorem ok125 : Mx.okFunc Tryz.prog F 125 Mx.spec_l01Below.m = true := by kernel_rfl
theorem ok113 : Mx.okFunc Tryz.prog F 113 Mx.spec_StoreNew.m = true := by kernel_rfl
theorem ok219 : Mx.okFunc Tryz.prog F 219 Mx.spec_l07Copy.m = true := by kernel_rfl
theorem ok196 : Mx.okFunc Tryz.prog F 196 Mx.spec_BoxAt.m = true := by kernel_rfl
theorem ok283 : Mx.okFunc Tryz.prog F 283 Mx.spec_DropBox.m = true := by kernel_rfl
theorem ok300 : Mx.okFunc Tryz.prog F 300 Mx.spec_Knows.m = true := by kernel_rfl
theorem ok301 : Mx.okFunc Tryz.prog F 301 Mx.spec_NextStamp.m = true := by kernel_rfl
theorem ok278 : Mx.okFunc Tryz.prog F 278 Mx.spec_MakeBox.m = true := by kernel_rfl
theorem ok282 : Mx.okFunc Tryz.prog F 282 Mx.spec_RenameBox.m = true := by kernel_rfl
theorem ok181 : Mx.okFunc Tryz.prog F 181 Mx.spec_FlagsNew.m = true := by kernel_rfl
theorem ok81 : Mx.okFunc Tryz.prog F 81 Mx.spec_AddMail.m = true := by kernel_rfl
theorem ok302 : Mx.okFunc Tryz.prog F 302 Mx.spec_l07Stamped.m = true := by kernel_rfl
theorem ok279 : Mx.okFunc Tryz.prog F 279 Mx.spec_PutMail.m = true := by kernel_rfl
theorem ok243 : Mx.okFunc Tryz.prog F 243 Mx.spec_PutReg.m = true := by kernel_rfl
theorem ok184 : Mx.okFunc Tryz.prog F 184 Mx.spec_SetFlags.m = true := by kernel_rfl
theorem ok84 : Mx.okFunc Tryz.prog F 84 Mx.spec_FlagMail.m = true := by kernel_rfl
theorem ok280 : Mx.okFunc Tryz.prog F 280 Mx.spec_MarkMail.m = true := by kernel_rfl
theorem ok86 : Mx.okFunc Tryz.prog F 86 Mx.spec_TakeOut.m = true := by kernel_rfl
theorem ok281 : Mx.okFunc Tryz.prog F 281 Mx.spec_DropMail.m = true := by kernel_rfl
theorem ok175 : Mx.okFunc Tryz.prog F 175 Mx.spec_l01Once.m = true := by kernel_rfl
theorem ok185 : Mx.okFunc Tryz.prog F 185 Mx.spec_l01Pick.m = true := by kernel_rfl
theorem ok174 : Mx.okFunc Tryz.prog F 174 Mx.spec_l05Text.m = true := by kernel_rfl
theorem ok244 : Mx.okFunc Tryz.prog F 244 Mx.spec_l07Use.m = true := by kernel_rfl
theorem ok511 : Mx.okFunc Tryz.prog F 511 Mx.spec_l09Two.m = true := by kernel_rfl
theorem ok124 : Mx.okFunc Tryz.prog F 124 Mx.spec_l01New.m = true := by kernel_rfl
theorem ok503 : Mx.okFunc Tryz.prog F 503 Mx.spec_DrawTwoStores.m = true := by kernel_rfl
theorem ok134 : Mx.okFunc Tryz.prog F 134 Mx.impl_copyInts.m = true := by kernel_rfl
theorem ok44 : Mx.okFunc Tryz.prog F 44 Mx.impl_JoinGone.m = true := by kernel_rfl
theorem ok200 : Mx.okFunc Tryz.prog F 200 Mx.slices_IndexFunc_impl_Box_impl_Box.m = true := by kernel_rfl
theorem ok477 : Mx.okFunc Tryz.prog F 477 Mx.impl_JoinBoxes_1_1.m = true := by kernel_rfl
theorem ok476 : Mx.okFunc Tryz.prog F 476 Mx.impl_JoinBoxes_1.m = true := by kernel_rfl
theorem ok239 : Mx.okFunc Tryz.prog F 239 Mx.impl_copyRegs.m = true := by kernel_rfl
theorem ok233 : Mx.okFunc Tryz.prog F 233 Mx.impl_copyMail.m = true := by kernel_rfl
theorem ok155 : Mx.okFunc Tryz.prog F 155 Mx.impl_copyBox.m = true := by kernel_rfl
theorem ok275 : Mx.okFunc Tryz.prog F 275 Mx.impl_Later.m = true := by kernel_rfl
theorem ok161 : Mx.okFunc Tryz.prog F 161 Mx.slices_IndexFunc_impl_Mail_impl_Mail.m = true := by kernel_rfl
theorem ok160 : Mx.okFunc Tryz.prog F 160 Mx.impl_MailAt_1.m = true := by kernel_rfl
theorem ok72 : Mx.okFunc Tryz.prog F 72 Mx.impl_MailAt.m = true := by kernel_rfl
theorem ok485 : Mx.okFunc Tryz.prog F 485 Mx.impl_JoinReg.m = true := by kernel_rfl
theorem ok470 : Mx.okFunc Tryz.prog F 470 Mx.impl_JoinFlags.m = true := by kernel_rfl
theorem ok452 : Mx.okFunc Tryz.prog F 452 Mx.impl_JoinMail.m = true := by kernel_rfl
theorem ok20 : Mx.okFunc Tryz.prog F 20 Mx.impl_Holds.m = true := by kernel_rfl
theorem ok453 : Mx.okFunc Tryz.prog F 453 Mx.slices_DeleteFunc_impl_Mail_impl_Mail.m = true := by kernel_rfl
theorem ok234 : Mx.okFunc Tryz.prog F 234 Mx.slices_Index_int_int.m = true := by kernel_rfl
theorem ok156 : Mx.okFunc Tryz.prog F 156 Mx.slices_Contains_int_int.m = true := by kernel_rfl
theorem ok454 : Mx.okFunc Tryz.prog F 454 Mx.impl_joined_1.m = true := by kernel_rfl
theorem ok486 : Mx.okFunc Tryz.prog F 486 Mx.slices_insertionSortCmpFunc_impl_Mail.m = true := by kernel_rfl
theorem ok471 : Mx.okFunc Tryz.prog F 471 Mx.slices_stableCmpFunc_impl_Mail.m = true := by kernel_rfl
theorem ok455 : Mx.okFunc Tryz.prog F 455 Mx.slices_SortStableFunc_impl_Mail_impl_Mail.m = true := by kernel_rfl
theorem ok457 : Mx.okFunc Tryz.prog F 457 Mx.impl_compare.m = true := by kernel_rfl
theorem ok456 : Mx.okFunc Tryz.prog F 456 Mx.impl_joined_2.m = true := by kernel_rfl
theorem ok23 : Mx.okFunc Tryz.prog F 23 Mx.impl_KeepsUid.m = true := by kernel_rfl
theorem ok458 : Mx.okFunc Tryz.prog F 458 Mx.impl_joined_3.m = true := by kernel_rfl
theorem ok437 : Mx.okFunc Tryz.prog F 437 Mx.impl_joined.m = true := by kernel_rfl
theorem ok401 : Mx.okFunc Tryz.prog F 401 Mx.impl_JoinBox.m = true := by kernel_rfl
theorem ok478 : Mx.okFunc Tryz.prog F 478 Mx.slices_DeleteFunc_impl_Box_impl_Box.m = true := by kernel_rfl
theorem ok479 : Mx.okFunc Tryz.prog F 479 Mx.impl_JoinBoxes_2.m = true := by kernel_rfl
theorem ok492 : Mx.okFunc Tryz.prog F 492 Mx.slices_insertionSortCmpFunc_impl_Box.m = true := by kernel_rfl
theorem ok490 : Mx.okFunc Tryz.prog F 490 Mx.slices_stableCmpFunc_impl_Box.m = true := by kernel_rfl
theorem ok480 : Mx.okFunc Tryz.prog F 480 Mx.slices_SortStableFunc_impl_Box_impl_Box.m = true := by kernel_rfl
theorem ok481 : Mx.okFunc Tryz.prog F 481 Mx.impl_JoinBoxes_3.m = true := by kernel_rfl
theorem ok482 : Mx.okFunc Tryz.prog F 482 Mx.slices_ContainsFunc_impl_Box_impl_Box.m = true := by kernel_rfl
theorem ok483 : Mx.okFunc Tryz.prog F 483 Mx.impl_JoinBoxes_4.m = true := by kernel_rfl
theorem ok128 : Mx.okFunc Tryz.prog F 128 Mx.impl_Decimal.m = true := by kernel_rfl
theorem ok484 : Mx.okFunc Tryz.prog F 484 Mx.impl_OtherName.m = true := by kernel_rfl
theorem ok467 : Mx.okFunc Tryz.prog F 467 Mx.impl_JoinBoxes.m = true := by kernel_rfl
theorem ok447 : Mx.okFunc Tryz.prog F 447 Mx.impl_JoinStore.m = true := by kernel_rfl
theorem ok101 : Mx.okFunc Tryz.prog F 101 Mx.impl_within.m = true := by kernel_rfl
theorem ok147 : Mx.okFunc Tryz.prog F 147 Mx.impl_isGid.m = true := by kernel_rfl
theorem ok165 : Mx.okFunc Tryz.prog F 165 Mx.impl_areGids.m = true := by kernel_rfl
theorem ok89 : Mx.okFunc Tryz.prog F 89 Mx.impl_NameOk.m = true := by kernel_rfl
theorem ok164 : Mx.okFunc Tryz.prog F 164 Mx.impl_StampOk.m = true := by kernel_rfl
theorem ok272 : Mx.okFunc Tryz.prog F 272 Mx.impl_RegOk.m = true := by kernel_rfl
theorem ok235 : Mx.okFunc Tryz.prog F 235 Mx.impl_FlagsOk.m = true := by kernel_rfl
theorem ok166 : Mx.okFunc Tryz.prog F 166 Mx.impl_MailOk.m = true := by kernel_rfl
theorem ok74 : Mx.okFunc Tryz.prog F 74 Mx.impl_BoxOk.m = true := by kernel_rfl
theorem ok271 : Mx.okFunc Tryz.prog F 271 Mx.impl_BoxNamed_1.m = true := by kernel_rfl
theorem ok228 : Mx.okFunc Tryz.prog F 228 Mx.impl_BoxNamed.m = true := by kernel_rfl
theorem ok229 : Mx.okFunc Tryz.prog F 229 Mx.impl_isLate.m = true := by kernel_rfl
theorem ok150 : Mx.okFunc Tryz.prog F 150 Mx.impl_StoreOk.m = true := by kernel_rfl
theorem ok433 : Mx.okFunc Tryz.prog F 433 Mx.impl_FitsStore.m = true := by kernel_rfl
theorem ok118 : Mx.okFunc Tryz.prog F 118 Mx.slices_EqualFunc_impl_Box_impl_Box_impl_Box_impl_Box.m = true := by kernel_rfl
theorem ok120 : Mx.okFunc Tryz.prog F 120 Mx.slices_Equal_int_int.m = true := by kernel_rfl
theorem ok211 : Mx.okFunc Tryz.prog F 211 Mx.slices_EqualFunc_impl_Mail_impl_Mail_impl_Mail_impl_Mail.m = true := by kernel_rfl
theorem ok253 : Mx.okFunc Tryz.prog F 253 Mx.slices_Equal_impl_Reg_impl_Reg.m = true := by kernel_rfl
theorem ok212 : Mx.okFunc Tryz.prog F 212 Mx.impl_SameMail.m = true := by kernel_rfl
theorem ok119 : Mx.okFunc Tryz.prog F 119 Mx.impl_sameBox.m = true := by kernel_rfl
theorem ok32 : Mx.okFunc Tryz.prog F 32 Mx.impl_Alike.m = true := by kernel_rfl
theorem ok432 : Mx.okFunc Tryz.prog F 432 Mx.spec_FitsStore.m = true := by kernel_rfl
theorem ok159 : Mx.okFunc Tryz.prog F 159 Mx.spec_SameMail.m = true := by kernel_rfl
theorem ok116 : Mx.okFunc Tryz.prog F 116 Mx.spec_l09Box.m = true := by kernel_rfl
theorem ok31 : Mx.okFunc Tryz.prog F 31 Mx.spec_Alike.m = true := by kernel_rfl
theorem ok512 : Mx.okFunc Tryz.prog F 512 Mx.impl_told.m = true := by kernel_rfl
theorem ok513 : Mx.okFunc Tryz.prog F 513 Mx.impl_Hex.m = true := by kernel_rfl
theorem ok514 : Mx.okFunc Tryz.prog F 514 Mx.impl_FlagsOf.m = true := by kernel_rfl
theorem ok504 : Mx.okFunc Tryz.prog F 504 Mx.impl_SaidOf.m = true := by kernel_rfl
theorem ok497 : Mx.okFunc Tryz.prog F 497 Mx.laws_FnStoresJoin.m = true := by kernel_rfl
theorem table : Mx.TableOk Tryz.prog F M := by
  refine Mx.table_extz ?_ ?_
  · simp only [tab, List.forall_mem_cons]
    exact ⟨ok36, ok132, ok133, ok43, ok474, ok241, ok238, ok180, ok277, ok91, ok459, ok460, ok488, ok472, ok461, ok22, ok462, ok439, ok405, ok247, ok197, ok475, ok466, ok446, ok98, ok186, ok90, ok183, ok276, ok242, ok187, ok88, ok226, ok227, ok149, ok131, ok125, ok113, ok219, ok196, ok283, ok300, ok301, ok278, ok282, ok181, ok81, ok302, ok279, ok243, ok184, ok84, ok280, ok86, ok281, ok175, ok185, ok174, ok244, ok511, ok124, ok503, ok134, ok44, ok200, ok477, ok476, ok239, ok233, ok155, ok275, ok161, ok160, ok72, ok485, ok470, ok452, ok20, ok453, ok234, ok156, ok454, ok486, ok471, ok455, ok457, ok456, ok23, ok458, ok437, ok401, ok478, ok479, ok492, ok490, ok480, ok481, ok482, ok483, ok128, ok484, ok467, ok447, ok101, ok147, ok165, ok89, ok164, ok272, ok235, ok166, ok74, ok271, ok228, ok229, ok150, ok433, ok118, ok120, ok211, ok253, ok212, ok119, ok32, ok432, ok159, ok116, ok31, ok512, ok513, ok514, ok504, ok497, by simp⟩
  · simp only [exts, List.forall_mem_cons]
    exact ⟨ext135, ext136, by simp⟩
theorem k36 : Mx.laws_big.k M := rfl
theorem k132 : Mx.spec_l06In.k M := rfl
theorem k133 : Mx.spec_l06Put.k M := rfl
theorem k43 : Mx.spec_JoinGone.k M := ⟨rfl, k132, k133⟩
theorem k474 : Mx.spec_l09At.k M := rfl
theorem k241 : Mx.spec_l04Copy.k M := rfl
theorem k238 : Mx.spec_l05Copy.k M := ⟨rfl, k241⟩
theorem k180 : Mx.spec_l06Copy.k M := ⟨rfl, k238⟩
theorem k277 : Mx.spec_Later.k M := rfl
theorem k91 : Mx.spec_MailAt.k M := rfl
theorem k459 : Mx.spec_l08Next.k M := rfl
theorem k460 : Mx.spec_l08Gids.k M := ⟨rfl, k132, k133⟩
theorem k488 : Mx.spec_JoinReg.k M := ⟨rfl, k277⟩
theorem k472 : Mx.spec_JoinFlags.k M := ⟨rfl, k488⟩
theorem k461 : Mx.spec_JoinMail.k M := ⟨rfl, k238, k472⟩
theorem k22 : Mx.spec_KeepsUid.k M := ⟨rfl, k91⟩
theorem k462 : Mx.spec_l08Put.k M := rfl
theorem k439 : Mx.spec_l08Join.k M := ⟨rfl, k22, k91, k132, k238, k459, k460, k461, k462⟩
theorem k405 : Mx.spec_JoinBox.k M := ⟨rfl, k43, k180, k277, k439⟩
theorem k247 : Mx.spec_l01Figure.k M := rfl
theorem k197 : Mx.spec_Decimal.k M := ⟨rfl, k247⟩
theorem k475 : Mx.spec_OtherName.k M := ⟨rfl, k197⟩
theorem k466 : Mx.spec_JoinBoxes.k M := ⟨rfl, k132, k133, k180, k405, k474, k475⟩
theorem k446 : Mx.spec_JoinStore.k M := ⟨rfl, k43, k132, k466⟩
theorem k98 : Mx.spec_l01In.k M := rfl
theorem k186 : Mx.spec_l06Sorted.k M := ⟨rfl, k98⟩
theorem k90 : Mx.spec_NameOk.k M := ⟨rfl, k98⟩
theorem k183 : Mx.spec_StampOk.k M := ⟨rfl, k98⟩
theorem k276 : Mx.spec_RegOk.k M := ⟨rfl, k98, k183⟩
theorem k242 : Mx.spec_FlagsOk.k M := ⟨rfl, k276⟩
theorem k187 : Mx.spec_MailOk.k M := ⟨rfl, k98, k242⟩
theorem k88 : Mx.spec_BoxOk.k M := ⟨rfl, k90, k91, k98, k132, k183, k186, k187⟩
theorem k226 : Mx.spec_BoxNamed.k M := rfl
theorem k227 : Mx.spec_l07Times.k M := rfl
theorem k149 : Mx.spec_StoreOk.k M := ⟨rfl, k88, k98, k132, k186, k226, k227⟩
theorem k131 : Mx.spec_l01Byte.k M := rfl
theorem k125 : Mx.spec_l01Below.k M := ⟨rfl, k131⟩
theorem k113 : Mx.spec_StoreNew.k M := rfl
theorem k219 : Mx.spec_l07Copy.k M := ⟨rfl, k180⟩
theorem k196 : Mx.spec_BoxAt.k M := rfl
theorem k283 : Mx.spec_DropBox.k M := ⟨rfl, k133, k149, k196, k219⟩
theorem k300 : Mx.spec_Knows.k M := ⟨rfl, k91, k132, k196⟩
theorem k301 : Mx.spec_NextStamp.k M := rfl
theorem k278 : Mx.spec_MakeBox.k M := ⟨rfl, k149, k180, k219, k226, k300, k301⟩
theorem k282 : Mx.spec_RenameBox.k M := ⟨rfl, k149, k196, k219, k226, k301⟩
theorem k181 : Mx.spec_FlagsNew.k M := rfl
theorem k81 : Mx.spec_AddMail.k M := ⟨rfl, k88, k91, k98, k132, k180, k181⟩
theorem k302 : Mx.spec_l07Stamped.k M := ⟨rfl, k149, k219⟩
theorem k279 : Mx.spec_PutMail.k M := ⟨rfl, k81, k149, k196, k219, k300, k301, k302⟩
theorem k243 : Mx.spec_PutReg.k M := ⟨rfl, k276, k277⟩
theorem k184 : Mx.spec_SetFlags.k M := ⟨rfl, k98, k241, k242, k243⟩
theorem k84 : Mx.spec_FlagMail.k M := ⟨rfl, k88, k91, k98, k180, k183, k184⟩
theorem k280 : Mx.spec_MarkMail.k M := ⟨rfl, k84, k149, k196, k219, k301, k302⟩
theorem k86 : Mx.spec_TakeOut.k M := ⟨rfl, k88, k91, k133, k180⟩
theorem k281 : Mx.spec_DropMail.k M := ⟨rfl, k86, k149, k196, k219⟩
theorem k175 : Mx.spec_l01Once.k M := ⟨rfl, k125⟩
theorem k185 : Mx.spec_l01Pick.k M := ⟨rfl, k125⟩
theorem k174 : Mx.spec_l05Text.k M := ⟨rfl, k185⟩
theorem k244 : Mx.spec_l07Use.k M := ⟨rfl, k125, k174, k175, k185, k278, k279, k280, k281, k282, k283⟩
theorem k511 : Mx.spec_l09Two.k M := ⟨rfl, k113, k125, k149, k175, k244, k446⟩
theorem k124 : Mx.spec_l01New.k M := rfl
theorem k503 : Mx.spec_DrawTwoStores.k M := ⟨rfl, k124, k511⟩
theorem k134 : Mx.impl_copyInts.k M := rfl
theorem k44 : Mx.impl_JoinGone.k M := ⟨rfl, k134, rfl, rfl⟩
theorem k200 : Mx.slices_IndexFunc_impl_Box_impl_Box.k M := rfl
theorem k477 : Mx.impl_JoinBoxes_1_1.k M := rfl
theorem k476 : Mx.impl_JoinBoxes_1.k M := ⟨rfl, k200, k477⟩
theorem k239 : Mx.impl_copyRegs.k M := rfl
theorem k233 : Mx.impl_copyMail.k M := ⟨rfl, k239⟩
theorem k155 : Mx.impl_copyBox.k M := ⟨rfl, k134, k233⟩
theorem k275 : Mx.impl_Later.k M := rfl
theorem k161 : Mx.slices_IndexFunc_impl_Mail_impl_Mail.k M := rfl
theorem k160 : Mx.impl_MailAt_1.k M := rfl
theorem k72 : Mx.impl_MailAt.k M := ⟨rfl, k160, k161⟩
theorem k485 : Mx.impl_JoinReg.k M := ⟨rfl, k275⟩
theorem k470 : Mx.impl_JoinFlags.k M := ⟨rfl, k485⟩
theorem k452 : Mx.impl_JoinMail.k M := ⟨rfl, k233, k470⟩
theorem k20 : Mx.impl_Holds.k M := ⟨rfl, k72⟩
theorem k453 : Mx.slices_DeleteFunc_impl_Mail_impl_Mail.k M := ⟨rfl, k161⟩
theorem k234 : Mx.slices_Index_int_int.k M := rfl
theorem k156 : Mx.slices_Contains_int_int.k M := ⟨rfl, k234⟩
theorem k454 : Mx.impl_joined_1.k M := ⟨rfl, k156⟩
theorem k486 : Mx.slices_insertionSortCmpFunc_impl_Mail.k M := rfl
theorem k471 : Mx.slices_stableCmpFunc_impl_Mail.k M := ⟨rfl, k486⟩
theorem k455 : Mx.slices_SortStableFunc_impl_Mail_impl_Mail.k M := ⟨rfl, k471⟩
theorem k457 : Mx.impl_compare.k M := rfl
theorem k456 : Mx.impl_joined_2.k M := ⟨rfl, k457⟩
theorem k23 : Mx.impl_KeepsUid.k M := ⟨rfl, k72⟩
theorem k458 : Mx.impl_joined_3.k M := ⟨rfl, k457⟩
theorem k437 : Mx.impl_joined.k M := ⟨rfl, k20, k23, k44, k72, k233, k452, k453, k454, k455, k456, k458⟩
theorem k401 : Mx.impl_JoinBox.k M := ⟨rfl, k44, k155, k275, k437⟩
theorem k478 : Mx.slices_DeleteFunc_impl_Box_impl_Box.k M := ⟨rfl, k200⟩
theorem k479 : Mx.impl_JoinBoxes_2.k M := ⟨rfl, k156⟩
theorem k492 : Mx.slices_insertionSortCmpFunc_impl_Box.k M := rfl
theorem k490 : Mx.slices_stableCmpFunc_impl_Box.k M := ⟨rfl, k492⟩
theorem k480 : Mx.slices_SortStableFunc_impl_Box_impl_Box.k M := ⟨rfl, k490⟩
theorem k481 : Mx.impl_JoinBoxes_3.k M := ⟨rfl, k457⟩
theorem k482 : Mx.slices_ContainsFunc_impl_Box_impl_Box.k M := ⟨rfl, k200⟩
theorem k483 : Mx.impl_JoinBoxes_4.k M := rfl
theorem k128 : Mx.impl_Decimal.k M := rfl
theorem k484 : Mx.impl_OtherName.k M := ⟨rfl, k128⟩
theorem k467 : Mx.impl_JoinBoxes.k M := ⟨rfl, k155, k401, k476, k478, k479, k480, k481, k482, k483, k484⟩
theorem k447 : Mx.impl_JoinStore.k M := ⟨rfl, k44, k156, k467⟩
theorem k101 : Mx.impl_within.k M := rfl
theorem k147 : Mx.impl_isGid.k M := ⟨rfl, k101⟩
theorem k165 : Mx.impl_areGids.k M := ⟨rfl, k147⟩
theorem k89 : Mx.impl_NameOk.k M := ⟨rfl, k101⟩
theorem k164 : Mx.impl_StampOk.k M := ⟨rfl, k101⟩
theorem k272 : Mx.impl_RegOk.k M := ⟨rfl, k101, k164⟩
theorem k235 : Mx.impl_FlagsOk.k M := ⟨rfl, k272⟩
theorem k166 : Mx.impl_MailOk.k M := ⟨rfl, k147, k235⟩
theorem k74 : Mx.impl_BoxOk.k M := ⟨rfl, k72, k89, k101, k147, k156, k164, k165, k166⟩
theorem k271 : Mx.impl_BoxNamed_1.k M := rfl
theorem k228 : Mx.impl_BoxNamed.k M := ⟨rfl, k200, k271⟩
theorem k229 : Mx.impl_isLate.k M := rfl
theorem k150 : Mx.impl_StoreOk.k M := ⟨rfl, k74, k101, k156, k165, k228, k229⟩
theorem k433 : Mx.impl_FitsStore.k M := ⟨rfl, k150, k447⟩
theorem k118 : Mx.slices_EqualFunc_impl_Box_impl_Box_impl_Box_impl_Box.k M := rfl
theorem k120 : Mx.slices_Equal_int_int.k M := rfl
theorem k211 : Mx.slices_EqualFunc_impl_Mail_impl_Mail_impl_Mail_impl_Mail.k M := rfl
theorem k253 : Mx.slices_Equal_impl_Reg_impl_Reg.k M := rfl
theorem k212 : Mx.impl_SameMail.k M := ⟨rfl, k253⟩
theorem k119 : Mx.impl_sameBox.k M := ⟨rfl, k120, k211, k212⟩
theorem k32 : Mx.impl_Alike.k M := ⟨rfl, k118, k119, k120⟩
theorem k432 : Mx.spec_FitsStore.k M := ⟨rfl, k149, k446⟩
theorem k159 : Mx.spec_SameMail.k M := rfl
theorem k116 : Mx.spec_l09Box.k M := ⟨rfl, k159⟩
theorem k31 : Mx.spec_Alike.k M := ⟨rfl, k116⟩
theorem k512 : Mx.impl_told.k M := ⟨rfl, k128⟩
theorem k513 : Mx.impl_Hex.k M := rfl
theorem k514 : Mx.impl_FlagsOf.k M := rfl
theorem k504 : Mx.impl_SaidOf.k M := ⟨rfl, k512, k513, k514⟩
theorem k497 : Mx.laws_FnStoresJoin.k M := ⟨rfl, k31, k32, k36, k150, k432, k433, k446, k447, k503, k504⟩

end Go.Proofs.YtcihgbflbmhkbaaGreat.fnStoresJoin

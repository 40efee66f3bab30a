/-
  Toward: at every input FnExactFitsStore returns true, and its arguments read as they did. No condition.
-/
import Derived.Test.YtpocolhpkkkmeaaGreatRows
import Derived.Shelf.Sort.Plain
import Derived.Shelf.Slices.In.SortNone
import Derived.Shelf.Slices.CompactI
import Derived.Test.YtpocolhpkkkmeaaGreatMxFse
set_option linter.unusedSimpArgs false
set_option linter.unusedVariables false
namespace Go.Proofs.YtpocolhpkkkmeaaGreat.fnExactFitsStore
open Go.ChangeShapes Go.WideShapes Go.ChangeAt Go.RowKit
set_option linter.unusedVariables false
def num : List (Nat × Nat) := [(108, 165), (250, 309), (208, 299), (107, 266), (17, 227), (115, 164), (29, 74), (132, 94), (91, 122), (98, 144), (186, 145), (90, 149), (183, 150), (276, 263), (242, 222), (187, 151), (88, 54), (226, 146), (227, 147), (149, 52), (133, 95), (43, 20), (241, 252), (238, 188), (180, 97), (277, 98), (22, 39), (459, 189), (460, 190), (488, 295), (472, 253), (461, 191), (462, 192), (439, 99), (405, 22), (474, 267), (247, 310), (197, 300), (475, 268), (466, 228), (446, 166), (432, 75), (42, 168), (109, 269), (288, 316), (251, 311), (209, 301), (110, 270), (18, 229), (117, 167), (30, 76), (161, 119), (160, 120), (72, 36), (101, 103), (147, 100), (89, 101), (164, 102), (165, 104), (272, 254), (235, 193), (166, 105), (234, 194), (156, 106), (74, 25), (200, 116), (271, 118), (228, 34), (229, 112), (150, 29), (134, 91), (44, 19), (239, 238), (233, 178), (155, 86), (275, 87), (20, 14), (23, 38), (485, 286), (470, 239), (452, 179), (453, 180), (454, 181), (486, 287), (471, 240), (455, 182), (457, 184), (456, 183), (458, 185), (437, 88), (401, 13), (477, 272), (476, 271), (478, 273), (479, 274), (492, 312), (490, 302), (480, 275), (481, 276), (482, 277), (483, 278), (128, 303), (484, 279), (467, 230), (447, 169), (433, 77), (45, 171), (111, 280), (289, 318), (252, 314), (210, 304), (112, 281), (21, 231), (121, 170), (33, 78), (398, 9), (135, 92), (136, 93), (487, 288), (493, 313)]
def tab : List (Nat × Mx.Fn) := [(108, Mx.laws_szIntS.m), (250, Mx.laws_szRegS.m), (208, Mx.laws_szMail.m), (107, Mx.laws_szMailS.m), (17, Mx.laws_szBox.m), (115, Mx.laws_szBoxS.m), (29, Mx.laws_szStore.m), (132, Mx.spec_l06In.m), (91, Mx.spec_MailAt.m), (98, Mx.spec_l01In.m), (186, Mx.spec_l06Sorted.m), (90, Mx.spec_NameOk.m), (183, Mx.spec_StampOk.m), (276, Mx.spec_RegOk.m), (242, Mx.spec_FlagsOk.m), (187, Mx.spec_MailOk.m), (88, Mx.spec_BoxOk.m), (226, Mx.spec_BoxNamed.m), (227, Mx.spec_l07Times.m), (149, Mx.spec_StoreOk.m), (133, Mx.spec_l06Put.m), (43, Mx.spec_JoinGone.m), (241, Mx.spec_l04Copy.m), (238, Mx.spec_l05Copy.m), (180, Mx.spec_l06Copy.m), (277, Mx.spec_Later.m), (22, Mx.spec_KeepsUid.m), (459, Mx.spec_l08Next.m), (460, Mx.spec_l08Gids.m), (488, Mx.spec_JoinReg.m), (472, Mx.spec_JoinFlags.m), (461, Mx.spec_JoinMail.m), (462, Mx.spec_l08Put.m), (439, Mx.spec_l08Join.m), (405, Mx.spec_JoinBox.m), (474, Mx.spec_l09At.m), (247, Mx.spec_l01Figure.m), (197, Mx.spec_Decimal.m), (475, Mx.spec_OtherName.m), (466, Mx.spec_JoinBoxes.m), (446, Mx.spec_JoinStore.m), (432, Mx.spec_FitsStore.m), (42, Mx.laws_toIntS.m), (109, Mx.laws_toStamp.m), (288, Mx.laws_toReg.m), (251, Mx.laws_toRegS.m), (209, Mx.laws_toMail.m), (110, Mx.laws_toMailS.m), (18, Mx.laws_toBox.m), (117, Mx.laws_toBoxS.m), (30, Mx.laws_toStore.m), (161, Mx.slices_IndexFunc_impl_Mail_impl_Mail.m), (160, Mx.impl_MailAt_1.m), (72, Mx.impl_MailAt.m), (101, Mx.impl_within.m), (147, Mx.impl_isGid.m), (89, Mx.impl_NameOk.m), (164, Mx.impl_StampOk.m), (165, Mx.impl_areGids.m), (272, Mx.impl_RegOk.m), (235, Mx.impl_FlagsOk.m), (166, Mx.impl_MailOk.m), (234, Mx.slices_Index_int_int.m), (156, Mx.slices_Contains_int_int.m), (74, Mx.impl_BoxOk.m), (200, Mx.slices_IndexFunc_impl_Box_impl_Box.m), (271, Mx.impl_BoxNamed_1.m), (228, Mx.impl_BoxNamed.m), (229, Mx.impl_isLate.m), (150, Mx.impl_StoreOk.m), (134, Mx.impl_copyInts.m), (44, Mx.impl_JoinGone.m), (239, Mx.impl_copyRegs.m), (233, Mx.impl_copyMail.m), (155, Mx.impl_copyBox.m), (275, Mx.impl_Later.m), (20, Mx.impl_Holds.m), (23, Mx.impl_KeepsUid.m), (485, Mx.impl_JoinReg.m), (470, Mx.impl_JoinFlags.m), (452, Mx.impl_JoinMail.m), (453, Mx.slices_DeleteFunc_impl_Mail_impl_Mail.m), (454, Mx.impl_joined_1.m), (486, Mx.slices_insertionSortCmpFunc_impl_Mail.m), (471, Mx.slices_stableCmpFunc_impl_Mail.m), (455, Mx.slices_SortStableFunc_impl_Mail_impl_Mail.m), (457, Mx.impl_compare.m), (456, Mx.impl_joined_2.m), (458, Mx.impl_joined_3.m), (437, Mx.impl_joined.m), (401, Mx.impl_JoinBox.m), (477, Mx.impl_JoinBoxes_1_1.m), (476, Mx.impl_JoinBoxes_1.m), (478, Mx.slices_DeleteFunc_impl_Box_impl_Box.m), (479, Mx.impl_JoinBoxes_2.m), (492, Mx.slices_insertionSortCmpFunc_impl_Box.m), (490, Mx.slices_stableCmpFunc_impl_Box.m), (480, Mx.slices_SortStableFunc_impl_Box_impl_Box.m), (481, Mx.impl_JoinBoxes_3.m), (482, Mx.slices_ContainsFunc_impl_Box_impl_Box.m), (483, Mx.impl_JoinBoxes_4.m), (128, Mx.impl_Decimal.m), (484, Mx.impl_OtherName.m), (467, Mx.impl_JoinBoxes.m), (447, Mx.impl_JoinStore.m), (433, Mx.impl_FitsStore.m), (45, Mx.laws_eqIntS.m), (111, Mx.laws_eqStamp.m), (289, Mx.laws_eqReg.m), (252, Mx.laws_eqRegS.m), (210, Mx.laws_eqMail.m), (112, Mx.laws_eqMailS.m), (21, Mx.laws_eqBox.m), (121, Mx.laws_eqBoxS.m), (33, Mx.laws_eqStore.m), (398, Mx.laws_FnExactFitsStore.m)]
def F : Nat → FuncId := Mx.tabF num
def exts : List (Nat × (List Mx.V → List (Nat × Mx.Ob) → Option (Mx.V × List (Nat × Mx.Ob)))) := [(135, Mx.sortG), (136, Mx.compactG)]
def M : Nat → Option Mx.Body := Mx.tabZ tab exts
/-- the numbers of the library's functions and types here -/
def rho20 : Go.Shelf.Ren := { f := fun n => if n = 20 then 93 else n, t := fun n => if n = 22 then 27 else n, g := fun n => n }
theorem lays20 : Go.Proofs.Lays2.n20 Tryz.prog rho20 where
  mixed := by kernel_rfl
  f20 := Tryz.func93.trans (congrArg some (by kernel_rfl))
  t0 := by kernel_rfl
  a0 := fun w => by kernel_rfl
  z0 := fun w => by kernel_rfl
  v0 := fun w => by kernel_rfl
  t3 := by kernel_rfl
  a3 := fun w => by kernel_rfl
  z3 := fun w => by kernel_rfl
  v3 := fun w => by kernel_rfl
  t4 := by kernel_rfl
  a4 := fun w => by kernel_rfl
  z4 := fun w => by kernel_rfl
  v4 := fun w => by kernel_rfl
  t22 := by kernel_rfl
  a22 := fun w => by kernel_rfl
  z22 := fun w => by kernel_rfl
  v22 := fun w => by kernel_rfl
  i3 := by kernel_rfl
/-- the numbers of the library's functions and types here -/
def rho189 : Go.Shelf.Ren := { f := fun n => if n = 189 then 92 else if n = 125 then 187 else if n = 257 then 186 else if n = 128 then 250 else if n = 129 then 251 else if n = 294 then 241 else if n = 295 then 242 else if n = 296 then 243 else if n = 297 then 244 else if n = 298 then 245 else if n = 299 then 246 else if n = 216 then 247 else if n = 300 then 248 else if n = 301 then 249 else if n = 328 then 289 else if n = 329 then 290 else if n = 330 then 291 else if n = 331 then 292 else if n = 332 then 293 else if n = 215 then 294 else if n = 343 then 308 else n, t := fun n => if n = 28 then 27 else if n = 46 then 179 else if n = 51 then 194 else if n = 53 then 237 else if n = 183 then 228 else if n = 182 then 227 else if n = 131 then 233 else if n = 218 then 256 else if n = 222 then 260 else if n = 228 then 270 else if n = 229 then 271 else n, g := fun n => n }
theorem lays189 : Go.Proofs.Lays.n189 Tryz.prog rho189 where
  mixed := by kernel_rfl
  f125 := Tryz.func187.trans (congrArg some (by kernel_rfl))
  f128 := Tryz.func250.trans (congrArg some (by kernel_rfl))
  f129 := Tryz.func251.trans (congrArg some (by kernel_rfl))
  f189 := Tryz.func92.trans (congrArg some (by kernel_rfl))
  f215 := Tryz.func294.trans (congrArg some (by kernel_rfl))
  f216 := Tryz.func247.trans (congrArg some (by kernel_rfl))
  f257 := Tryz.func186.trans (congrArg some (by kernel_rfl))
  f294 := Tryz.func241.trans (congrArg some (by kernel_rfl))
  f295 := Tryz.func242.trans (congrArg some (by kernel_rfl))
  f296 := Tryz.func243.trans (congrArg some (by kernel_rfl))
  f297 := Tryz.func244.trans (congrArg some (by kernel_rfl))
  f298 := Tryz.func245.trans (congrArg some (by kernel_rfl))
  f299 := Tryz.func246.trans (congrArg some (by kernel_rfl))
  f300 := Tryz.func248.trans (congrArg some (by kernel_rfl))
  f301 := Tryz.func249.trans (congrArg some (by kernel_rfl))
  f328 := Tryz.func289.trans (congrArg some (by kernel_rfl))
  f329 := Tryz.func290.trans (congrArg some (by kernel_rfl))
  f330 := Tryz.func291.trans (congrArg some (by kernel_rfl))
  f331 := Tryz.func292.trans (congrArg some (by kernel_rfl))
  f332 := Tryz.func293.trans (congrArg some (by kernel_rfl))
  f343 := Tryz.func308.trans (congrArg some (by kernel_rfl))
  t0 := by kernel_rfl
  a0 := fun w => by kernel_rfl
  z0 := fun w => by kernel_rfl
  v0 := fun w => by kernel_rfl
  t3 := by kernel_rfl
  a3 := fun w => by kernel_rfl
  z3 := fun w => by kernel_rfl
  v3 := fun w => by kernel_rfl
  t4 := by kernel_rfl
  a4 := fun w => by kernel_rfl
  z4 := fun w => by kernel_rfl
  v4 := fun w => by kernel_rfl
  t5 := by kernel_rfl
  a5 := fun w => by kernel_rfl
  z5 := fun w => by kernel_rfl
  v5 := fun w => by kernel_rfl
  t9 := by kernel_rfl
  a9 := fun w => by kernel_rfl
  z9 := fun w => by kernel_rfl
  v9 := fun w => by kernel_rfl
  t28 := by kernel_rfl
  a28 := fun w => by kernel_rfl
  z28 := fun w => by kernel_rfl
  v28 := fun w => by kernel_rfl
  t46 := by kernel_rfl
  a46 := fun w => by kernel_rfl
  z46 := fun w => by kernel_rfl
  v46 := fun w => by kernel_rfl
  t51 := by kernel_rfl
  a51 := fun w => by kernel_rfl
  z51 := fun w => by kernel_rfl
  v51 := fun w => by kernel_rfl
  t53 := by kernel_rfl
  a53 := fun w => by kernel_rfl
  z53 := fun w => by kernel_rfl
  v53 := fun w => by kernel_rfl
  t131 := by kernel_rfl
  a131 := fun w => by kernel_rfl
  z131 := fun w => by kernel_rfl
  v131 := fun w => by kernel_rfl
  t182 := by kernel_rfl
  a182 := fun w => by kernel_rfl
  z182 := fun w => by kernel_rfl
  v182 := fun w => by kernel_rfl
  t183 := by kernel_rfl
  a183 := fun w => by kernel_rfl
  z183 := fun w => by kernel_rfl
  v183 := fun w => by kernel_rfl
  t218 := by kernel_rfl
  a218 := fun w => by kernel_rfl
  z218 := fun w => by kernel_rfl
  v218 := fun w => by kernel_rfl
  t222 := by kernel_rfl
  a222 := fun w => by kernel_rfl
  z222 := fun w => by kernel_rfl
  v222 := fun w => by kernel_rfl
  t228 := by kernel_rfl
  a228 := fun w => by kernel_rfl
  z228 := fun w => by kernel_rfl
  v228 := fun w => by kernel_rfl
  t229 := by kernel_rfl
  a229 := fun w => by kernel_rfl
  z229 := fun w => by kernel_rfl
  v229 := fun w => by kernel_rfl
theorem ext135 : Mx.ExtOk Tryz.prog F 135 Mx.sortG :=
  Mx.ext_sort (by kernel_rfl) (fun p cap w => Go.Proofs.Any.slices_Sort_int_none lays189 p cap w) (fun blk off cap zs w h1 h2 h3 => Go.Proofs.Any.slices_Sort_int lays189 blk off cap zs w h1 h2 h3)
theorem ext136 : Mx.ExtOk Tryz.prog F 136 Mx.compactG :=
  Mx.ext_compact (by kernel_rfl) (fun p cap w => Go.Proofs.Any.slices_Compact_int_empty lays20 p cap w) (fun blk off cap zs w h1 h2 h3 => Go.Proofs.Any.slices_Compact_int lays20 blk off cap zs w h1 h2 h3) Mx.compact_len
theorem ok108 : Mx.okFunc Tryz.prog F 108 Mx.laws_szIntS.m = true := by kernel_rfl
theorem ok250 : Mx.okFunc Tryz.prog F 250 Mx.laws_szRegS.m = true := by kernel_rfl
theorem ok208 : Mx.okFunc Tryz.prog F 208 Mx.laws_szMail.m = true := by kernel_rfl
theorem ok107 : Mx.okFunc Tryz.prog F 107 Mx.laws_szMailS.m = true := by kernel_rfl
theorem ok17 : Mx.okFunc Tryz.prog F 17 Mx.laws_szBox.m = true := by kernel_rfl
theorem ok115 : Mx.okFunc Tryz.prog F 115 Mx.laws_szBoxS.m = true := by kernel_rfl
theorem ok29 : Mx.okFunc Tryz.prog F 29 Mx.laws_szStore.m = true := by kernel_rfl
theorem ok132 : Mx.okFunc Tryz.prog F 132 Mx.spec_l06In.m = true := by kernel_rfl
theorem ok91 : Mx.okFunc Tryz.prog F 91 Mx.spec_MailAt.m = true := by kernel_rfl
theorem ok98 : Mx.okFunc Tryz.prog F 98 Mx.spec_l01In.m = true := by kernel_rfl
theorem ok186 : Mx.okFunc Tryz.prog F 186 Mx.spec_l06Sorted.m = true := by kernel_rfl
theorem ok90 : Mx.okFunc Tryz.prog F 90 Mx.spec_NameOk.m = true := by kernel_rfl
theorem ok183 : Mx.okFunc Tryz.prog F 183 Mx.spec_StampOk.m = true := by kernel_rfl
theorem ok276 : Mx.okFunc Tryz.prog F 276 Mx.spec_RegOk.m = true := by kernel_rfl
theorem ok242 : Mx.okFunc Tryz.prog F 242 Mx.spec_FlagsOk.m = true := by kernel_rfl
theorem ok187 : Mx.okFunc Tryz.prog F 187 Mx.spec_MailOk.m = true := by kernel_rfl
theorem ok88 : Mx.okFunc Tryz.prog F 88 Mx.spec_BoxOk.m = true := by kernel_rfl
theorem ok226 : Mx.okFunc Tryz.prog F 226 Mx.spec_BoxNamed.m = true := by kernel_rfl
theorem ok227 : Mx.okFunc Tryz.prog F 227 Mx.spec_l07Times.m = true := by kernel_rfl
theorem ok149 : Mx.okFunc Tryz.prog F 149 Mx.spec_StoreOk.m = true := by kernel_rfl
theorem ok133 : Mx.okFunc Tryz.prog F 133 Mx.spec_l06Put.m = true := by kernel_rfl
theorem ok43 : Mx.okFunc Tryz.prog F 43 Mx.spec_JoinGone.m = true := by kernel_rfl
theorem ok241 : Mx.okFunc Tryz.prog F 241 Mx.spec_l04Copy.m = true := by kernel_rfl
theorem ok238 : Mx.okFunc Tryz.prog F 238 Mx.spec_l05Copy.m = true := by kernel_rfl
theorem ok180 : Mx.okFunc Tryz.prog F 180 Mx.spec_l06Copy.m = true := by kernel_rfl
theorem ok277 : Mx.okFunc Tryz.prog F 277 Mx.spec_Later.m = true := by kernel_rfl
theorem ok22 : Mx.okFunc Tryz.prog F 22 Mx.spec_KeepsUid.m = true := by kernel_rfl
theorem ok459 : Mx.okFunc Tryz.prog F 459 Mx.spec_l08Next.m = true := by kernel_rfl
theorem ok460 : Mx.okFunc Tryz.prog F 460 Mx.spec_l08Gids.m = true := by kernel_rfl
theorem ok488 : Mx.okFunc Tryz.prog F 488 Mx.spec_JoinReg.m = true := by kernel_rfl
theorem ok472 : Mx.okFunc Tryz.prog F 472 Mx.spec_JoinFlags.m = true := by kernel_rfl
theorem ok461 : Mx.okFunc Tryz.prog F 461 Mx.spec_JoinMail.m = true := by kernel_rfl
theorem ok462 : Mx.okFunc Tryz.prog F 462 Mx.spec_l08Put.m = true := by kernel_rfl
theorem ok439 : Mx.okFunc Tryz.prog F 439 Mx.spec_l08Join.m = true := by kernel_rfl
theorem ok405 : Mx.okFunc Tryz.prog F 405 Mx.spec_JoinBox.m = true := by kernel_rfl
theorem ok474 : Mx.okFunc Tryz.prog F 474 Mx.spec_l09At.m = true := by kernel_rfl
theorem ok247 : Mx.okFunc Tryz.prog F 247 Mx.spec_l01Figure.m = true := by kernel_rfl
theorem ok197 : Mx.okFunc Tryz.prog F 197 Mx.spec_Decimal.m = true := by kernel_rfl
theorem ok475 : Mx.okFunc Tryz.prog F 475 Mx.spec_OtherName.m = true := by kernel_rfl
theorem ok466 : Mx.okFunc Tryz.prog F 466 Mx.spec_JoinBoxes.m = true := by kernel_rfl
theorem ok446 : Mx.okFunc Tryz.prog F 446 Mx.spec_JoinStore.m = true := by kernel_rfl
theorem ok432 : Mx.okFunc Tryz.prog F 432 Mx.spec_FitsStore.m = true := by kernel_rfl
theorem ok42 : Mx.okFunc Tryz.prog F 42 Mx.laws_toIntS.m = true := by kernel_rfl
theorem ok109 : Mx.okFunc Tryz.prog F 109 Mx.laws_toStamp.m = true := by kernel_rfl
theorem ok288 : Mx.okFunc Tryz.prog F 288 Mx.laws_toReg.m = true := by kernel_rfl
theorem ok251 : Mx.okFunc Tryz.prog F 251 Mx.laws_toRegS.m = true := by kernel_rfl
theorem ok209 : Mx.okFunc Tryz.prog F 209 Mx.laws_toMail.m = true := by kernel_rfl
theorem ok110 : Mx.okFunc Tryz.prog F 110 Mx.laws_toMailS.m = true := by kernel_rfl
theorem ok18 : Mx.okFunc Tryz.prog F 18 Mx.laws_toBox.m = true := by kernel_rfl
theorem ok117 : Mx.okFunc Tryz.prog F 117 Mx.laws_toBoxS.m = true := by kernel_rfl
theorem ok30 : Mx.okFunc Tryz.prog F 30 Mx.laws_toStore.m = true := by kernel_rfl
theorem ok161 : Mx.okFunc Tryz.prog F 161 Mx.slices_IndexFunc_impl_Mail_impl_Mail.m = true := by kernel_rfl
theorem ok160 : Mx.okFunc Tryz.prog F 160 Mx.impl_MailAt_1.m = true := by kernel_rfl
theorem ok72 : Mx.okFunc Tryz.prog F 72 Mx.impl_MailAt.m = true := by kernel_rfl
theorem ok101 : Mx.okFunc Tryz.prog F 101 Mx.impl_within.m = true := by kernel_rfl
theorem ok147 : Mx.okFunc Tryz.prog F 147 Mx.impl_isGid.m = true := by kernel_rfl
theorem ok89 : Mx.okFunc Tryz.prog F 89 Mx.impl_NameOk.m = true := by kernel_rfl
theorem ok164 : Mx.okFunc Tryz.prog F 164 Mx.impl_StampOk.m = true := by kernel_rfl
theorem ok165 : Mx.okFunc Tryz.prog F 165 Mx.impl_areGids.m = true := by kernel_rfl
theorem ok272 : Mx.okFunc Tryz.prog F 272 Mx.impl_RegOk.m = true := by kernel_rfl
theorem ok235 : Mx.okFunc Tryz.prog F 235 Mx.impl_FlagsOk.m = true := by kernel_rfl
theorem ok166 : Mx.okFunc Tryz.prog F 166 Mx.impl_MailOk.m = true := by kernel_rfl
theorem ok234 : Mx.okFunc Tryz.prog F 234 Mx.slices_Index_int_int.m = true := by kernel_rfl
theorem ok156 : Mx.okFunc Tryz.prog F 156 Mx.slices_Contains_int_int.m = true := by kernel_rfl
theorem ok74 : Mx.okFunc Tryz.prog F 74 Mx.impl_BoxOk.m = true := by kernel_rfl
theorem ok200 : Mx.okFunc Tryz.prog F 200 Mx.slices_IndexFunc_impl_Box_impl_Box.m = true := by kernel_rfl
theorem ok271 : Mx.okFunc Tryz.prog F 271 Mx.impl_BoxNamed_1.m = true := by kernel_rfl
theorem ok228 : Mx.okFunc Tryz.prog F 228 Mx.impl_BoxNamed.m = true := by kernel_rfl
theorem ok229 : Mx.okFunc Tryz.prog F 229 Mx.impl_isLate.m = true := by kernel_rfl
theorem ok150 : Mx.okFunc Tryz.prog F 150 Mx.impl_StoreOk.m = true := by kernel_rfl
theorem ok134 : Mx.okFunc Tryz.prog F 134 Mx.impl_copyInts.m = true := by kernel_rfl
theorem ok44 : Mx.okFunc Tryz.prog F 44 Mx.impl_JoinGone.m = true := by kernel_rfl
theorem ok239 : Mx.okFunc Tryz.prog F 239 Mx.impl_copyRegs.m = true := by kernel_rfl
theorem ok233 : Mx.okFunc Tryz.prog F 233 Mx.impl_copyMail.m = true := by kernel_rfl
theorem ok155 : Mx.okFunc Tryz.prog F 155 Mx.impl_copyBox.m = true := by kernel_rfl
theorem ok275 : Mx.okFunc Tryz.prog F 275 Mx.impl_Later.m = true := by kernel_rfl
theorem ok20 : Mx.okFunc Tryz.prog F 20 Mx.impl_Holds.m = true := by kernel_rfl
theorem ok23 : Mx.okFunc Tryz.prog F 23 Mx.impl_KeepsUid.m = true := by kernel_rfl
theorem ok485 : Mx.okFunc Tryz.prog F 485 Mx.impl_JoinReg.m = true := by kernel_rfl
theorem ok470 : Mx.okFunc Tryz.prog F 470 Mx.impl_JoinFlags.m = true := by kernel_rfl
theorem ok452 : Mx.okFunc Tryz.prog F 452 Mx.impl_JoinMail.m = true := by kernel_rfl
theorem ok453 : Mx.okFunc Tryz.prog F 453 Mx.slices_DeleteFunc_impl_Mail_impl_Mail.m = true := by kernel_rfl
theorem ok454 : Mx.okFunc Tryz.prog F 454 Mx.impl_joined_1.m = true := by kernel_rfl
theorem ok486 : Mx.okFunc Tryz.prog F 486 Mx.slices_insertionSortCmpFunc_impl_Mail.m = true := by kernel_rfl
theorem ok471 : Mx.okFunc Tryz.prog F 471 Mx.slices_stableCmpFunc_impl_Mail.m = true := by kernel_rfl
theorem ok455 : Mx.okFunc Tryz.prog F 455 Mx.slices_SortStableFunc_impl_Mail_impl_Mail.m = true := by kernel_rfl
theorem ok457 : Mx.okFunc Tryz.prog F 457 Mx.impl_compare.m = true := by kernel_rfl
theorem ok456 : Mx.okFunc Tryz.prog F 456 Mx.impl_joined_2.m = true := by kernel_rfl
theorem ok458 : Mx.okFunc Tryz.prog F 458 Mx.impl_joined_3.m = true := by kernel_rfl
theorem ok437 : Mx.okFunc Tryz.prog F 437 Mx.impl_joined.m = true := by kernel_rfl
theorem ok401 : Mx.okFunc Tryz.prog F 401 Mx.impl_JoinBox.m = true := by kernel_rfl
theorem ok477 : Mx.okFunc Tryz.prog F 477 Mx.impl_JoinBoxes_1_1.m = true := by kernel_rfl
theorem ok476 : Mx.okFunc Tryz.prog F 476 Mx.impl_JoinBoxes_1.m = true := by kernel_rfl
theorem ok478 : Mx.okFunc Tryz.prog F 478 Mx.slices_DeleteFunc_impl_Box_impl_Box.m = true := by kernel_rfl
theorem ok479 : Mx.okFunc Tryz.prog F 479 Mx.impl_JoinBoxes_2.m = true := by kernel_rfl
theorem ok492 : Mx.okFunc Tryz.prog F 492 Mx.slices_insertionSortCmpFunc_impl_Box.m = true := by kernel_rfl
theorem ok490 : Mx.okFunc Tryz.prog F 490 Mx.slices_stableCmpFunc_impl_Box.m = true := by kernel_rfl
theorem ok480 : Mx.okFunc Tryz.prog F 480 Mx.slices_SortStableFunc_impl_Box_impl_Box.m = true := by kernel_rfl
theorem ok481 : Mx.okFunc Tryz.prog F 481 Mx.impl_JoinBoxes_3.m = true := by kernel_rfl
theorem ok482 : Mx.okFunc Tryz.prog F 482 Mx.slices_ContainsFunc_impl_Box_impl_Box.m = true := by kernel_rfl
theorem ok483 : Mx.okFunc Tryz.prog F 483 Mx.impl_JoinBoxes_4.m = true := by kernel_rfl
theorem ok128 : Mx.okFunc Tryz.prog F 128 Mx.impl_Decimal.m = true := by kernel_rfl
theorem ok484 : Mx.okFunc Tryz.prog F 484 Mx.impl_OtherName.m = true := by kernel_rfl
theorem ok467 : Mx.okFunc Tryz.prog F 467 Mx.impl_JoinBoxes.m = true := by kernel_rfl
theorem ok447 : Mx.okFunc Tryz.prog F 447 Mx.impl_JoinStore.m = true := by kernel_rfl
theorem ok433 : Mx.okFunc Tryz.prog F 433 Mx.impl_FitsStore.m = true := by kernel_rfl
theorem ok45 : Mx.okFunc Tryz.prog F 45 Mx.laws_eqIntS.m = true := by kernel_rfl
theorem ok111 : Mx.okFunc Tryz.prog F 111 Mx.laws_eqStamp.m = true := by kernel_rfl
theorem ok289 : Mx.okFunc Tryz.prog F 289 Mx.laws_eqReg.m = true := by kernel_rfl
theorem ok252 : Mx.okFunc Tryz.prog F 252 Mx.laws_eqRegS.m = true := by kernel_rfl
theorem ok210 : Mx.okFunc Tryz.prog F 210 Mx.laws_eqMail.m = true := by kernel_rfl
theorem ok112 : Mx.okFunc Tryz.prog F 112 Mx.laws_eqMailS.m = true := by kernel_rfl
theorem ok21 : Mx.okFunc Tryz.prog F 21 Mx.laws_eqBox.m = true := by kernel_rfl
theorem ok121 : Mx.okFunc Tryz.prog F 121 Mx.laws_eqBoxS.m = true := by kernel_rfl
theorem ok33 : Mx.okFunc Tryz.prog F 33 Mx.laws_eqStore.m = true := by kernel_rfl
theorem ok398 : Mx.okFunc Tryz.prog F 398 Mx.laws_FnExactFitsStore.m = true := by kernel_rfl
theorem table : Mx.TableOk Tryz.prog F M := by
  refine Mx.table_extz ?_ ?_
  · simp only [tab, List.forall_mem_cons]
    exact ⟨ok108, ok250, ok208, ok107, ok17, ok115, ok29, ok132, ok91, ok98, ok186, ok90, ok183, ok276, ok242, ok187, ok88, ok226, ok227, ok149, ok133, ok43, ok241, ok238, ok180, ok277, ok22, ok459, ok460, ok488, ok472, ok461, ok462, ok439, ok405, ok474, ok247, ok197, ok475, ok466, ok446, ok432, ok42, ok109, ok288, ok251, ok209, ok110, ok18, ok117, ok30, ok161, ok160, ok72, ok101, ok147, ok89, ok164, ok165, ok272, ok235, ok166, ok234, ok156, ok74, ok200, ok271, ok228, ok229, ok150, ok134, ok44, ok239, ok233, ok155, ok275, ok20, ok23, ok485, ok470, ok452, ok453, ok454, ok486, ok471, ok455, ok457, ok456, ok458, ok437, ok401, ok477, ok476, ok478, ok479, ok492, ok490, ok480, ok481, ok482, ok483, ok128, ok484, ok467, ok447, ok433, ok45, ok111, ok289, ok252, ok210, ok112, ok21, ok121, ok33, ok398, by simp⟩
  · simp only [exts, List.forall_mem_cons]
    exact ⟨ext135, ext136, by simp⟩
theorem k108 : Mx.laws_szIntS.k M := rfl
theorem k250 : Mx.laws_szRegS.k M := rfl
theorem k208 : Mx.laws_szMail.k M := ⟨rfl, k250⟩
theorem k107 : Mx.laws_szMailS.k M := ⟨rfl, k208⟩
theorem k17 : Mx.laws_szBox.k M := ⟨rfl, k107, k108⟩
theorem k115 : Mx.laws_szBoxS.k M := ⟨rfl, k17⟩
theorem k29 : Mx.laws_szStore.k M := ⟨rfl, k108, k115⟩
theorem k132 : Mx.spec_l06In.k M := rfl
theorem k91 : Mx.spec_MailAt.k M := rfl
theorem k98 : Mx.spec_l01In.k M := rfl
theorem k186 : Mx.spec_l06Sorted.k M := ⟨rfl, k98⟩
theorem k90 : Mx.spec_NameOk.k M := ⟨rfl, k98⟩
theorem k183 : Mx.spec_StampOk.k M := ⟨rfl, k98⟩
theorem k276 : Mx.spec_RegOk.k M := ⟨rfl, k98, k183⟩
theorem k242 : Mx.spec_FlagsOk.k M := ⟨rfl, k276⟩
theorem k187 : Mx.spec_MailOk.k M := ⟨rfl, k98, k242⟩
theorem k88 : Mx.spec_BoxOk.k M := ⟨rfl, k90, k91, k98, k132, k183, k186, k187⟩
theorem k226 : Mx.spec_BoxNamed.k M := rfl
theorem k227 : Mx.spec_l07Times.k M := rfl
theorem k149 : Mx.spec_StoreOk.k M := ⟨rfl, k88, k98, k132, k186, k226, k227⟩
theorem k133 : Mx.spec_l06Put.k M := rfl
theorem k43 : Mx.spec_JoinGone.k M := ⟨rfl, k132, k133⟩
theorem k241 : Mx.spec_l04Copy.k M := rfl
theorem k238 : Mx.spec_l05Copy.k M := ⟨rfl, k241⟩
theorem k180 : Mx.spec_l06Copy.k M := ⟨rfl, k238⟩
theorem k277 : Mx.spec_Later.k M := rfl
theorem k22 : Mx.spec_KeepsUid.k M := ⟨rfl, k91⟩
theorem k459 : Mx.spec_l08Next.k M := rfl
theorem k460 : Mx.spec_l08Gids.k M := ⟨rfl, k132, k133⟩
theorem k488 : Mx.spec_JoinReg.k M := ⟨rfl, k277⟩
theorem k472 : Mx.spec_JoinFlags.k M := ⟨rfl, k488⟩
theorem k461 : Mx.spec_JoinMail.k M := ⟨rfl, k238, k472⟩
theorem k462 : Mx.spec_l08Put.k M := rfl
theorem k439 : Mx.spec_l08Join.k M := ⟨rfl, k22, k91, k132, k238, k459, k460, k461, k462⟩
theorem k405 : Mx.spec_JoinBox.k M := ⟨rfl, k43, k180, k277, k439⟩
theorem k474 : Mx.spec_l09At.k M := rfl
theorem k247 : Mx.spec_l01Figure.k M := rfl
theorem k197 : Mx.spec_Decimal.k M := ⟨rfl, k247⟩
theorem k475 : Mx.spec_OtherName.k M := ⟨rfl, k197⟩
theorem k466 : Mx.spec_JoinBoxes.k M := ⟨rfl, k132, k133, k180, k405, k474, k475⟩
theorem k446 : Mx.spec_JoinStore.k M := ⟨rfl, k43, k132, k466⟩
theorem k432 : Mx.spec_FitsStore.k M := ⟨rfl, k149, k446⟩
theorem k42 : Mx.laws_toIntS.k M := rfl
theorem k109 : Mx.laws_toStamp.k M := rfl
theorem k288 : Mx.laws_toReg.k M := ⟨rfl, k109⟩
theorem k251 : Mx.laws_toRegS.k M := ⟨rfl, k288⟩
theorem k209 : Mx.laws_toMail.k M := ⟨rfl, k251⟩
theorem k110 : Mx.laws_toMailS.k M := ⟨rfl, k209⟩
theorem k18 : Mx.laws_toBox.k M := ⟨rfl, k42, k109, k110⟩
theorem k117 : Mx.laws_toBoxS.k M := ⟨rfl, k18⟩
theorem k30 : Mx.laws_toStore.k M := ⟨rfl, k42, k117⟩
theorem k161 : Mx.slices_IndexFunc_impl_Mail_impl_Mail.k M := rfl
theorem k160 : Mx.impl_MailAt_1.k M := rfl
theorem k72 : Mx.impl_MailAt.k M := ⟨rfl, k160, k161⟩
theorem k101 : Mx.impl_within.k M := rfl
theorem k147 : Mx.impl_isGid.k M := ⟨rfl, k101⟩
theorem k89 : Mx.impl_NameOk.k M := ⟨rfl, k101⟩
theorem k164 : Mx.impl_StampOk.k M := ⟨rfl, k101⟩
theorem k165 : Mx.impl_areGids.k M := ⟨rfl, k147⟩
theorem k272 : Mx.impl_RegOk.k M := ⟨rfl, k101, k164⟩
theorem k235 : Mx.impl_FlagsOk.k M := ⟨rfl, k272⟩
theorem k166 : Mx.impl_MailOk.k M := ⟨rfl, k147, k235⟩
theorem k234 : Mx.slices_Index_int_int.k M := rfl
theorem k156 : Mx.slices_Contains_int_int.k M := ⟨rfl, k234⟩
theorem k74 : Mx.impl_BoxOk.k M := ⟨rfl, k72, k89, k101, k147, k156, k164, k165, k166⟩
theorem k200 : Mx.slices_IndexFunc_impl_Box_impl_Box.k M := rfl
theorem k271 : Mx.impl_BoxNamed_1.k M := rfl
theorem k228 : Mx.impl_BoxNamed.k M := ⟨rfl, k200, k271⟩
theorem k229 : Mx.impl_isLate.k M := rfl
theorem k150 : Mx.impl_StoreOk.k M := ⟨rfl, k74, k101, k156, k165, k228, k229⟩
theorem k134 : Mx.impl_copyInts.k M := rfl
theorem k44 : Mx.impl_JoinGone.k M := ⟨rfl, k134, rfl, rfl⟩
theorem k239 : Mx.impl_copyRegs.k M := rfl
theorem k233 : Mx.impl_copyMail.k M := ⟨rfl, k239⟩
theorem k155 : Mx.impl_copyBox.k M := ⟨rfl, k134, k233⟩
theorem k275 : Mx.impl_Later.k M := rfl
theorem k20 : Mx.impl_Holds.k M := ⟨rfl, k72⟩
theorem k23 : Mx.impl_KeepsUid.k M := ⟨rfl, k72⟩
theorem k485 : Mx.impl_JoinReg.k M := ⟨rfl, k275⟩
theorem k470 : Mx.impl_JoinFlags.k M := ⟨rfl, k485⟩
theorem k452 : Mx.impl_JoinMail.k M := ⟨rfl, k233, k470⟩
theorem k453 : Mx.slices_DeleteFunc_impl_Mail_impl_Mail.k M := ⟨rfl, k161⟩
theorem k454 : Mx.impl_joined_1.k M := ⟨rfl, k156⟩
theorem k486 : Mx.slices_insertionSortCmpFunc_impl_Mail.k M := rfl
theorem k471 : Mx.slices_stableCmpFunc_impl_Mail.k M := ⟨rfl, k486⟩
theorem k455 : Mx.slices_SortStableFunc_impl_Mail_impl_Mail.k M := ⟨rfl, k471⟩
theorem k457 : Mx.impl_compare.k M := rfl
theorem k456 : Mx.impl_joined_2.k M := ⟨rfl, k457⟩
theorem k458 : Mx.impl_joined_3.k M := ⟨rfl, k457⟩
theorem k437 : Mx.impl_joined.k M := ⟨rfl, k20, k23, k44, k72, k233, k452, k453, k454, k455, k456, k458⟩
theorem k401 : Mx.impl_JoinBox.k M := ⟨rfl, k44, k155, k275, k437⟩
theorem k477 : Mx.impl_JoinBoxes_1_1.k M := rfl
theorem k476 : Mx.impl_JoinBoxes_1.k M := ⟨rfl, k200, k477⟩
theorem k478 : Mx.slices_DeleteFunc_impl_Box_impl_Box.k M := ⟨rfl, k200⟩
theorem k479 : Mx.impl_JoinBoxes_2.k M := ⟨rfl, k156⟩
theorem k492 : Mx.slices_insertionSortCmpFunc_impl_Box.k M := rfl
theorem k490 : Mx.slices_stableCmpFunc_impl_Box.k M := ⟨rfl, k492⟩
theorem k480 : Mx.slices_SortStableFunc_impl_Box_impl_Box.k M := ⟨rfl, k490⟩
theorem k481 : Mx.impl_JoinBoxes_3.k M := ⟨rfl, k457⟩
theorem k482 : Mx.slices_ContainsFunc_impl_Box_impl_Box.k M := ⟨rfl, k200⟩
theorem k483 : Mx.impl_JoinBoxes_4.k M := rfl
theorem k128 : Mx.impl_Decimal.k M := rfl
theorem k484 : Mx.impl_OtherName.k M := ⟨rfl, k128⟩
theorem k467 : Mx.impl_JoinBoxes.k M := ⟨rfl, k155, k401, k476, k478, k479, k480, k481, k482, k483, k484⟩
theorem k447 : Mx.impl_JoinStore.k M := ⟨rfl, k44, k156, k467⟩
theorem k433 : Mx.impl_FitsStore.k M := ⟨rfl, k150, k447⟩
theorem k45 : Mx.laws_eqIntS.k M := rfl
theorem k111 : Mx.laws_eqStamp.k M := rfl
theorem k289 : Mx.laws_eqReg.k M := ⟨rfl, k111⟩
theorem k252 : Mx.laws_eqRegS.k M := ⟨rfl, k289⟩
theorem k210 : Mx.laws_eqMail.k M := ⟨rfl, k252⟩
theorem k112 : Mx.laws_eqMailS.k M := ⟨rfl, k210⟩
theorem k21 : Mx.laws_eqBox.k M := ⟨rfl, k45, k111, k112⟩
theorem k121 : Mx.laws_eqBoxS.k M := ⟨rfl, k21⟩
theorem k33 : Mx.laws_eqStore.k M := ⟨rfl, k45, k121⟩
theorem k398 : Mx.laws_FnExactFitsStore.k M := ⟨rfl, k29, k30, k33, k432, k433⟩

end Go.Proofs.YtpocolhpkkkmeaaGreat.fnExactFitsStore

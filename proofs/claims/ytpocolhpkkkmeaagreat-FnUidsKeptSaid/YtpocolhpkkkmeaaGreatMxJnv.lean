/-
  Toward: at every input FnUidsKept returns true, and its arguments read as they did. No condition.
-/
import Derived.Test.YtpocolhpkkkmeaaGreatRows
import Derived.Shelf.Sort.Plain
import Derived.Shelf.Slices.In.SortNone
import Derived.Shelf.Slices.CompactI
import Derived.Test.YtpocolhpkkkmeaaGreatMxJne
set_option linter.unusedSimpArgs false
set_option linter.unusedVariables false
namespace Go.Proofs.YtpocolhpkkkmeaaGreat.fnUidsKept
open Go.ChangeShapes Go.WideShapes Go.ChangeAt Go.RowKit
set_option linter.unusedVariables false
def num : List (Nat × Nat) := [(36, 11), (131, 108), (125, 89), (241, 252), (238, 188), (180, 97), (175, 142), (185, 152), (174, 154), (132, 94), (91, 122), (98, 144), (186, 145), (90, 149), (183, 150), (276, 263), (242, 222), (187, 151), (88, 54), (181, 223), (81, 158), (277, 98), (243, 265), (184, 225), (84, 161), (133, 95), (86, 163), (232, 177), (436, 84), (124, 85), (400, 12), (134, 91), (44, 19), (239, 238), (233, 178), (155, 86), (275, 87), (161, 119), (160, 120), (72, 36), (20, 14), (23, 38), (485, 286), (470, 239), (452, 179), (453, 180), (234, 194), (156, 106), (454, 181), (486, 287), (471, 240), (455, 182), (457, 184), (456, 183), (458, 185), (437, 88), (401, 13), (158, 18), (159, 96), (71, 21), (43, 20), (22, 39), (459, 189), (460, 190), (488, 295), (472, 253), (461, 191), (462, 192), (439, 99), (405, 22), (154, 216), (298, 297), (273, 260), (179, 121), (177, 218), (299, 298), (274, 261), (176, 262), (237, 217), (173, 138), (438, 90), (414, 37), (415, 40), (395, 6), (135, 92), (136, 93), (487, 288)]
def tab : List (Nat × Mx.Fn) := [(36, Mx.laws_big.m), (131, Mx.spec_l01Byte.m), (125, Mx.spec_l01Below.m), (241, Mx.spec_l04Copy.m), (238, Mx.spec_l05Copy.m), (180, Mx.spec_l06Copy.m), (175, Mx.spec_l01Once.m), (185, Mx.spec_l01Pick.m), (174, Mx.spec_l05Text.m), (132, Mx.spec_l06In.m), (91, Mx.spec_MailAt.m), (98, Mx.spec_l01In.m), (186, Mx.spec_l06Sorted.m), (90, Mx.spec_NameOk.m), (183, Mx.spec_StampOk.m), (276, Mx.spec_RegOk.m), (242, Mx.spec_FlagsOk.m), (187, Mx.spec_MailOk.m), (88, Mx.spec_BoxOk.m), (181, Mx.spec_FlagsNew.m), (81, Mx.spec_AddMail.m), (277, Mx.spec_Later.m), (243, Mx.spec_PutReg.m), (184, Mx.spec_SetFlags.m), (84, Mx.spec_FlagMail.m), (133, Mx.spec_l06Put.m), (86, Mx.spec_TakeOut.m), (232, Mx.spec_l03Stamp.m), (436, Mx.spec_l08Two.m), (124, Mx.spec_l01New.m), (400, Mx.spec_DrawTwoBoxes.m), (134, Mx.impl_copyInts.m), (44, Mx.impl_JoinGone.m), (239, Mx.impl_copyRegs.m), (233, Mx.impl_copyMail.m), (155, Mx.impl_copyBox.m), (275, Mx.impl_Later.m), (161, Mx.slices_IndexFunc_impl_Mail_impl_Mail.m), (160, Mx.impl_MailAt_1.m), (72, Mx.impl_MailAt.m), (20, Mx.impl_Holds.m), (23, Mx.impl_KeepsUid.m), (485, Mx.impl_JoinReg.m), (470, Mx.impl_JoinFlags.m), (452, Mx.impl_JoinMail.m), (453, Mx.slices_DeleteFunc_impl_Mail_impl_Mail.m), (234, Mx.slices_Index_int_int.m), (156, Mx.slices_Contains_int_int.m), (454, Mx.impl_joined_1.m), (486, Mx.slices_insertionSortCmpFunc_impl_Mail.m), (471, Mx.slices_stableCmpFunc_impl_Mail.m), (455, Mx.slices_SortStableFunc_impl_Mail_impl_Mail.m), (457, Mx.impl_compare.m), (456, Mx.impl_joined_2.m), (458, Mx.impl_joined_3.m), (437, Mx.impl_joined.m), (401, Mx.impl_JoinBox.m), (158, Mx.laws_sameInts.m), (159, Mx.spec_SameMail.m), (71, Mx.laws_sameBox.m), (43, Mx.spec_JoinGone.m), (22, Mx.spec_KeepsUid.m), (459, Mx.spec_l08Next.m), (460, Mx.spec_l08Gids.m), (488, Mx.spec_JoinReg.m), (472, Mx.spec_JoinFlags.m), (461, Mx.spec_JoinMail.m), (462, Mx.spec_l08Put.m), (439, Mx.spec_l08Join.m), (405, Mx.spec_JoinBox.m), (154, Mx.spec_l06Box.m), (298, Mx.spec_l04Flags.m), (273, Mx.spec_l05Mail.m), (179, Mx.spec_l01PickInt.m), (177, Mx.spec_l03Any.m), (299, Mx.spec_l03Reg.m), (274, Mx.spec_l04Any.m), (176, Mx.spec_l01Long.m), (237, Mx.spec_l05Any.m), (173, Mx.spec_l06Any.m), (438, Mx.spec_l08Pair.m), (414, Mx.spec_DrawKeepsUid.m), (415, Mx.impl_JoinMails.m), (395, Mx.laws_FnUidsKept.m)]
def F : Nat → FuncId := Mx.tabF num
def exts : List (Nat × (List Mx.V → List (Nat × Mx.Ob) → Option (Mx.V × List (Nat × Mx.Ob)))) := [(135, Mx.sortG), (136, Mx.compactG)]
def M : Nat → Option Mx.Body := Mx.tabZ tab exts
/-- the numbers of the library's functions and types here -/
def rho20 : Go.Shelf.Ren := { f := fun n => if n = 20 then 93 else n, t := fun n => if n = 22 then 27 else n, g := fun n => n }
theorem lays20 : Go.Proofs.Lays2.n20 Tryz.prog rho20 where
  mixed := by kernel_rfl
  f20 := Tryz.func93.trans (congrArg some (by kernel_rfl))
  t0 := by kernel_rfl
  a0 := fun w => by kernel_rfl
  z0 := fun w => by kernel_rfl
  v0 := fun w => by kernel_rfl
  t3 := by kernel_rfl
  a3 := fun w => by kernel_rfl
  z3 := fun w => by kernel_rfl
  v3 := fun w => by kernel_rfl
  t4 := by kernel_rfl
  a4 := fun w => by kernel_rfl
  z4 := fun w => by kernel_rfl
  v4 := fun w => by kernel_rfl
  t22 := by kernel_rfl
  a22 := fun w => by kernel_rfl
  z22 := fun w => by kernel_rfl
  v22 := fun w => by kernel_rfl
  i3 := by kernel_rfl
/-- the numbers of the library's functions and types here -/
def rho189 : Go.Shelf.Ren := { f := fun n => if n = 189 then 92 else if n = 125 then 187 else if n = 257 then 186 else if n = 128 then 250 else if n = 129 then 251 else if n = 294 then 241 else if n = 295 then 242 else if n = 296 then 243 else if n = 297 then 244 else if n = 298 then 245 else if n = 299 then 246 else if n = 216 then 247 else if n = 300 then 248 else if n = 301 then 249 else if n = 328 then 289 else if n = 329 then 290 else if n = 330 then 291 else if n = 331 then 292 else if n = 332 then 293 else if n = 215 then 294 else if n = 343 then 308 else n, t := fun n => if n = 28 then 27 else if n = 46 then 179 else if n = 51 then 194 else if n = 53 then 237 else if n = 183 then 228 else if n = 182 then 227 else if n = 131 then 233 else if n = 218 then 256 else if n = 222 then 260 else if n = 228 then 270 else if n = 229 then 271 else n, g := fun n => n }
theorem lays189 : Go.Proofs.Lays.n189 Tryz.prog rho189 where
  mixed := by kernel_rfl
  f125 := Tryz.func187.trans (congrArg some (by kernel_rfl))
  f128 := Tryz.func250.trans (congrArg some (by kernel_rfl))
  f129 := Tryz.func251.trans (congrArg some (by kernel_rfl))
  f189 := Tryz.func92.trans (congrArg some (by kernel_rfl))
  f215 := Tryz.func294.trans (congrArg some (by kernel_rfl))
  f216 := Tryz.func247.trans (congrArg some (by kernel_rfl))
  f257 := Tryz.func186.trans (congrArg some (by kernel_rfl))
  f294 := Tryz.func241.trans (congrArg some (by kernel_rfl))
  f295 := Tryz.func242.trans (congrArg some (by kernel_rfl))
  f296 := Tryz.func243.trans (congrArg some (by kernel_rfl))
  f297 := Tryz.func244.trans (congrArg some (by kernel_rfl))
  f298 := Tryz.func245.trans (congrArg some (by kernel_rfl))
  f299 := Tryz.func246.trans (congrArg some (by kernel_rfl))
  f300 := Tryz.func248.trans (congrArg some (by kernel_rfl))
  f301 := Tryz.func249.trans (congrArg some (by kernel_rfl))
  f328 := Tryz.func289.trans (congrArg some (by kernel_rfl))
  f329 := Tryz.func290.trans (congrArg some (by kernel_rfl))
  f330 := Tryz.func291.trans (congrArg some (by kernel_rfl))
  f331 := Tryz.func292.trans (congrArg some (by kernel_rfl))
  f332 := Tryz.func293.trans (congrArg some (by kernel_rfl))
  f343 := Tryz.func308.trans (congrArg some (by kernel_rfl))
  t0 := by kernel_rfl
  a0 := fun w => by kernel_rfl
  z0 := fun w => by kernel_rfl
  v0 := fun w => by kernel_rfl
  t3 := by kernel_rfl
  a3 := fun w => by kernel_rfl
  z3 := fun w => by kernel_rfl
  v3 := fun w => by kernel_rfl
  t4 := by kernel_rfl
  a4 := fun w => by kernel_rfl
  z4 := fun w => by kernel_rfl
  v4 := fun w => by kernel_rfl
  t5 := by kernel_rfl
  a5 := fun w => by kernel_rfl
  z5 := fun w => by kernel_rfl
  v5 := fun w => by kernel_rfl
  t9 := by kernel_rfl
  a9 := fun w => by kernel_rfl
  z9 := fun w => by kernel_rfl
  v9 := fun w => by kernel_rfl
  t28 := by kernel_rfl
  a28 := fun w => by kernel_rfl
  z28 := fun w => by kernel_rfl
  v28 := fun w => by kernel_rfl
  t46 := by kernel_rfl
  a46 := fun w => by kernel_rfl
  z46 := fun w => by kernel_rfl
  v46 := fun w => by kernel_rfl
  t51 := by kernel_rfl
  a51 := fun w => by kernel_rfl
  z51 := fun w => by kernel_rfl
  v51 := fun w => by kernel_rfl
  t53 := by kernel_rfl
  a53 := fun w => by kernel_rfl
  z53 := fun w => by kernel_rfl
  v53 := fun w => by kernel_rfl
  t131 := by kernel_rfl
  a131 := fun w => by kernel_rfl
  z131 := fun w => by kernel_rfl
  v131 := fun w => by kernel_rfl
  t182 := by kernel_rfl
  a182 := fun w => by kernel_rfl
  z182 := fun w => by kernel_rfl
  v182 := fun w => by kernel_rfl
  t183 := by kernel_rfl
  a183 := fun w => by kernel_rfl
  z183 := fun w => by kernel_rfl
  v183 := fun w => by kernel_rfl
  t218 := by kernel_rfl
  a218 := fun w => by kernel_rfl
  z218 := fun w => by kernel_rfl
  v218 := fun w => by kernel_rfl
  t222 := by kernel_rfl
  a222 := fun w => by kernel_rfl
  z222 := fun w => by kernel_rfl
  v222 := fun w => by kernel_rfl
  t228 := by kernel_rfl
  a228 := fun w => by kernel_rfl
  z228 := fun w => by kernel_rfl
  v228 := fun w => by kernel_rfl
  t229 := by kernel_rfl
  a229 := fun w => by kernel_rfl
  z229 := fun w => by kernel_rfl
  v229 := fun w => by kernel_rfl
theorem ext135 : Mx.ExtOk Tryz.prog F 135 Mx.sortG :=
  Mx.ext_sort (by kernel_rfl) (fun p cap w => Go.Proofs.Any.slices_Sort_int_none lays189 p cap w) (fun blk off cap zs w h1 h2 h3 => Go.Proofs.Any.slices_Sort_int lays189 blk off cap zs w h1 h2 h3)
theorem ext136 : Mx.ExtOk Tryz.prog F 136 Mx.compactG :=
  Mx.ext_compact (by kernel_rfl) (fun p cap w => Go.Proofs.Any.slices_Compact_int_empty lays20 p cap w) (fun blk off cap zs w h1 h2 h3 => Go.Proofs.Any.slices_Compact_int lays20 blk off cap zs w h1 h2 h3) Mx.compact_len
theorem ok36 : Mx.okFunc Tryz.prog F 36 Mx.laws_big.m = true := by kernel_rfl
theorem ok131 : Mx.okFunc Tryz.prog F 131 Mx.spec_l01Byte.m = true := by kernel_rfl
theorem ok125 : Mx.okFunc Tryz.prog F 125 Mx.spec_l01Below.m = true := by kernel_rfl
theorem ok241 : Mx.okFunc Tryz.prog F 241 Mx.spec_l04Copy.m = true := by kernel_rfl
theorem ok238 : Mx.okFunc Tryz.prog F 238 Mx.spec_l05Copy.m = true := by kernel_rfl
theorem ok180 : Mx.okFunc Tryz.prog F 180 Mx.spec_l06Copy.m = true := by kernel_rfl
theorem ok175 : Mx.okFunc Tryz.prog F 175 Mx.spec_l01Once.m = true := by kernel_rfl
theorem ok185 : Mx.okFunc Tryz.prog F 185 Mx.spec_l01Pick.m = true := by kernel_rfl
theorem ok174 : Mx.okFunc Tryz.prog F 174 Mx.spec_l05Text.m = true := by kernel_rfl
theorem ok132 : Mx.okFunc Tryz.prog F 132 Mx.spec_l06In.m = true := by kernel_rfl
theorem ok91 : Mx.okFunc Tryz.prog F 91 Mx.spec_MailAt.m = true := by kernel_rfl
theorem ok98 : Mx.okFunc Tryz.prog F 98 Mx.spec_l01In.m = true := by kernel_rfl
theorem ok186 : Mx.okFunc Tryz.prog F 186 Mx.spec_l06Sorted.m = true := by kernel_rfl
theorem ok90 : Mx.okFunc Tryz.prog F 90 Mx.spec_NameOk.m = true := by kernel_rfl
theorem ok183 : Mx.okFunc Tryz.prog F 183 Mx.spec_StampOk.m = true := by kernel_rfl
theorem ok276 : Mx.okFunc Tryz.prog F 276 Mx.spec_RegOk.m = true := by kernel_rfl
theorem ok242 : Mx.okFunc Tryz.prog F 242 Mx.spec_FlagsOk.m = true := by kernel_rfl
theorem ok187 : Mx.okFunc Tryz.prog F 187 Mx.spec_MailOk.m = true := by kernel_rfl
theorem ok88 : Mx.okFunc Tryz.prog F 88 Mx.spec_BoxOk.m = true := by kernel_rfl
theorem ok181 : Mx.okFunc Tryz.prog F 181 Mx.spec_FlagsNew.m = true := by kernel_rfl
theorem ok81 : Mx.okFunc Tryz.prog F 81 Mx.spec_AddMail.m = true := by kernel_rfl
theorem ok277 : Mx.okFunc Tryz.prog F 277 Mx.spec_Later.m = true := by kernel_rfl
theorem ok243 : Mx.okFunc Tryz.prog F 243 Mx.spec_PutReg.m = true := by kernel_rfl
theorem ok184 : Mx.okFunc Tryz.prog F 184 Mx.spec_SetFlags.m = true := by kernel_rfl
theorem ok84 : Mx.okFunc Tryz.prog F 84 Mx.spec_FlagMail.m = true := by kernel_rfl
theorem ok133 : Mx.okFunc Tryz.prog F 133 Mx.spec_l06Put.m = true := by kernel_rfl
theorem ok86 : Mx.okFunc Tryz.prog F 86 Mx.spec_TakeOut.m = true := by kernel_rfl
theorem ok232 : Mx.okFunc Tryz.prog F 232 Mx.spec_l03Stamp.m = true := by kernel_rfl
theorem ok436 : Mx.okFunc Tryz.prog F 436 Mx.spec_l08Two.m = true := by kernel_rfl
theorem ok124 : Mx.okFunc Tryz.prog F 124 Mx.spec_l01New.m = true := by kernel_rfl
theorem ok400 : Mx.okFunc Tryz.prog F 400 Mx.spec_DrawTwoBoxes.m = true := by kernel_rfl
theorem ok134 : Mx.okFunc Tryz.prog F 134 Mx.impl_copyInts.m = true := by kernel_rfl
theorem ok44 : Mx.okFunc Tryz.prog F 44 Mx.impl_JoinGone.m = true := by kernel_rfl
theorem ok239 : Mx.okFunc Tryz.prog F 239 Mx.impl_copyRegs.m = true := by kernel_rfl
theorem ok233 : Mx.okFunc Tryz.prog F 233 Mx.impl_copyMail.m = true := by kernel_rfl
theorem ok155 : Mx.okFunc Tryz.prog F 155 Mx.impl_copyBox.m = true := by kernel_rfl
theorem ok275 : Mx.okFunc Tryz.prog F 275 Mx.impl_Later.m = true := by kernel_rfl
theorem ok161 : Mx.okFunc Tryz.prog F 161 Mx.slices_IndexFunc_impl_Mail_impl_Mail.m = true := by kernel_rfl
theorem ok160 : Mx.okFunc Tryz.prog F 160 Mx.impl_MailAt_1.m = true := by kernel_rfl
theorem ok72 : Mx.okFunc Tryz.prog F 72 Mx.impl_MailAt.m = true := by kernel_rfl
theorem ok20 : Mx.okFunc Tryz.prog F 20 Mx.impl_Holds.m = true := by kernel_rfl
theorem ok23 : Mx.okFunc Tryz.prog F 23 Mx.impl_KeepsUid.m = true := by kernel_rfl
theorem ok485 : Mx.okFunc Tryz.prog F 485 Mx.impl_JoinReg.m = true := by kernel_rfl
theorem ok470 : Mx.okFunc Tryz.prog F 470 Mx.impl_JoinFlags.m = true := by kernel_rfl
theorem ok452 : Mx.okFunc Tryz.prog F 452 Mx.impl_JoinMail.m = true := by kernel_rfl
theorem ok453 : Mx.okFunc Tryz.prog F 453 Mx.slices_DeleteFunc_impl_Mail_impl_Mail.m = true := by kernel_rfl
theorem ok234 : Mx.okFunc Tryz.prog F 234 Mx.slices_Index_int_int.m = true := by kernel_rfl
theorem ok156 : Mx.okFunc Tryz.prog F 156 Mx.slices_Contains_int_int.m = true := by kernel_rfl
theorem ok454 : Mx.okFunc Tryz.prog F 454 Mx.impl_joined_1.m = true := by kernel_rfl
theorem ok486 : Mx.okFunc Tryz.prog F 486 Mx.slices_insertionSortCmpFunc_impl_Mail.m = true := by kernel_rfl
theorem ok471 : Mx.okFunc Tryz.prog F 471 Mx.slices_stableCmpFunc_impl_Mail.m = true := by kernel_rfl
theorem ok455 : Mx.okFunc Tryz.prog F 455 Mx.slices_SortStableFunc_impl_Mail_impl_Mail.m = true := by kernel_rfl
theorem ok457 : Mx.okFunc Tryz.prog F 457 Mx.impl_compare.m = true := by kernel_rfl
theorem ok456 : Mx.okFunc Tryz.prog F 456 Mx.impl_joined_2.m = true := by kernel_rfl
theorem ok458 : Mx.okFunc Tryz.prog F 458 Mx.impl_joined_3.m = true := by kernel_rfl
theorem ok437 : Mx.okFunc Tryz.prog F 437 Mx.impl_joined.m = true := by kernel_rfl
theorem ok401 : Mx.okFunc Tryz.prog F 401 Mx.impl_JoinBox.m = true := by kernel_rfl
theorem ok158 : Mx.okFunc Tryz.prog F 158 Mx.laws_sameInts.m = true := by kernel_rfl
theorem ok159 : Mx.okFunc Tryz.prog F 159 Mx.spec_SameMail.m = true := by kernel_rfl
theorem ok71 : Mx.okFunc Tryz.prog F 71 Mx.laws_sameBox.m = true := by kernel_rfl
theorem ok43 : Mx.okFunc Tryz.prog F 43 Mx.spec_JoinGone.m = true := by kernel_rfl
theorem ok22 : Mx.okFunc Tryz.prog F 22 Mx.spec_KeepsUid.m = true := by kernel_rfl
theorem ok459 : Mx.okFunc Tryz.prog F 459 Mx.spec_l08Next.m = true := by kernel_rfl
theorem ok460 : Mx.okFunc Tryz.prog F 460 Mx.spec_l08Gids.m = true := by kernel_rfl
theorem ok488 : Mx.okFunc Tryz.prog F 488 Mx.spec_JoinReg.m = true := by kernel_rfl
theorem ok472 : Mx.okFunc Tryz.prog F 472 Mx.spec_JoinFlags.m = true := by kernel_rfl
theorem ok461 : Mx.okFunc Tryz.prog F 461 Mx.spec_JoinMail.m = true := by kernel_rfl
theorem ok462 : Mx.okFunc Tryz.prog F 462 Mx.spec_l08Put.m = true := by kernel_rfl
theorem ok439 : Mx.okFunc Tryz.prog F 439 Mx.spec_l08Join.m = true := by kernel_rfl
theorem ok405 : Mx.okFunc Tryz.prog F 405 Mx.spec_JoinBox.m = true := by kernel_rfl
theorem ok154 : Mx.okFunc Tryz.prog F 154 Mx.spec_l06Box.m = true := by kernel_rfl
theorem ok298 : Mx.okFunc Tryz.prog F 298 Mx.spec_l04Flags.m = true := by kernel_rfl
theorem ok273 : Mx.okFunc Tryz.prog F 273 Mx.spec_l05Mail.m = true := by kernel_rfl
theorem ok179 : Mx.okFunc Tryz.prog F 179 Mx.spec_l01PickInt.m = true := by kernel_rfl
theorem ok177 : Mx.okFunc Tryz.prog F 177 Mx.spec_l03Any.m = true := by kernel_rfl
theorem ok299 : Mx.okFunc Tryz.prog F 299 Mx.spec_l03Reg.m = true := by kernel_rfl
theorem ok274 : Mx.okFunc Tryz.prog F 274 Mx.spec_l04Any.m = true := by kernel_rfl
theorem ok176 : Mx.okFunc Tryz.prog F 176 Mx.spec_l01Long.m = true := by kernel_rfl
theorem ok237 : Mx.okFunc Tryz.prog F 237 Mx.spec_l05Any.m = true := by kernel_rfl
theorem ok173 : Mx.okFunc Tryz.prog F 173 Mx.spec_l06Any.m = true := by kernel_rfl
theorem ok438 : Mx.okFunc Tryz.prog F 438 Mx.spec_l08Pair.m = true := by kernel_rfl
theorem ok414 : Mx.okFunc Tryz.prog F 414 Mx.spec_DrawKeepsUid.m = true := by kernel_rfl
theorem ok415 : Mx.okFunc Tryz.prog F 415 Mx.impl_JoinMails.m = true := by kernel_rfl
theorem ok395 : Mx.okFunc Tryz.prog F 395 Mx.laws_FnUidsKept.m = true := by kernel_rfl
theorem table : Mx.TableOk Tryz.prog F M := by
  refine Mx.table_extz ?_ ?_
  · simp only [tab, List.forall_mem_cons]
    exact ⟨ok36, ok131, ok125, ok241, ok238, ok180, ok175, ok185, ok174, ok132, ok91, ok98, ok186, ok90, ok183, ok276, ok242, ok187, ok88, ok181, ok81, ok277, ok243, ok184, ok84, ok133, ok86, ok232, ok436, ok124, ok400, ok134, ok44, ok239, ok233, ok155, ok275, ok161, ok160, ok72, ok20, ok23, ok485, ok470, ok452, ok453, ok234, ok156, ok454, ok486, ok471, ok455, ok457, ok456, ok458, ok437, ok401, ok158, ok159, ok71, ok43, ok22, ok459, ok460, ok488, ok472, ok461, ok462, ok439, ok405, ok154, ok298, ok273, ok179, ok177, ok299, ok274, ok176, ok237, ok173, ok438, ok414, ok415, ok395, by simp⟩
  · simp only [exts, List.forall_mem_cons]
    exact ⟨ext135, ext136, by simp⟩
theorem k36 : Mx.laws_big.k M := rfl
theorem k131 : Mx.spec_l01Byte.k M := rfl
theorem k125 : Mx.spec_l01Below.k M := ⟨rfl, k131⟩
theorem k241 : Mx.spec_l04Copy.k M := rfl
theorem k238 : Mx.spec_l05Copy.k M := ⟨rfl, k241⟩
theorem k180 : Mx.spec_l06Copy.k M := ⟨rfl, k238⟩
theorem k175 : Mx.spec_l01Once.k M := ⟨rfl, k125⟩
theorem k185 : Mx.spec_l01Pick.k M := ⟨rfl, k125⟩
theorem k174 : Mx.spec_l05Text.k M := ⟨rfl, k185⟩
theorem k132 : Mx.spec_l06In.k M := rfl
theorem k91 : Mx.spec_MailAt.k M := rfl
theorem k98 : Mx.spec_l01In.k M := rfl
theorem k186 : Mx.spec_l06Sorted.k M := ⟨rfl, k98⟩
theorem k90 : Mx.spec_NameOk.k M := ⟨rfl, k98⟩
theorem k183 : Mx.spec_StampOk.k M := ⟨rfl, k98⟩
theorem k276 : Mx.spec_RegOk.k M := ⟨rfl, k98, k183⟩
theorem k242 : Mx.spec_FlagsOk.k M := ⟨rfl, k276⟩
theorem k187 : Mx.spec_MailOk.k M := ⟨rfl, k98, k242⟩
theorem k88 : Mx.spec_BoxOk.k M := ⟨rfl, k90, k91, k98, k132, k183, k186, k187⟩
theorem k181 : Mx.spec_FlagsNew.k M := rfl
theorem k81 : Mx.spec_AddMail.k M := ⟨rfl, k88, k91, k98, k132, k180, k181⟩
theorem k277 : Mx.spec_Later.k M := rfl
theorem k243 : Mx.spec_PutReg.k M := ⟨rfl, k276, k277⟩
theorem k184 : Mx.spec_SetFlags.k M := ⟨rfl, k98, k241, k242, k243⟩
theorem k84 : Mx.spec_FlagMail.k M := ⟨rfl, k88, k91, k98, k180, k183, k184⟩
theorem k133 : Mx.spec_l06Put.k M := rfl
theorem k86 : Mx.spec_TakeOut.k M := ⟨rfl, k88, k91, k133, k180⟩
theorem k232 : Mx.spec_l03Stamp.k M := ⟨rfl, k125⟩
theorem k436 : Mx.spec_l08Two.k M := ⟨rfl, k81, k84, k86, k125, k174, k175, k180, k232⟩
theorem k124 : Mx.spec_l01New.k M := rfl
theorem k400 : Mx.spec_DrawTwoBoxes.k M := ⟨rfl, k124, k436⟩
theorem k134 : Mx.impl_copyInts.k M := rfl
theorem k44 : Mx.impl_JoinGone.k M := ⟨rfl, k134, rfl, rfl⟩
theorem k239 : Mx.impl_copyRegs.k M := rfl
theorem k233 : Mx.impl_copyMail.k M := ⟨rfl, k239⟩
theorem k155 : Mx.impl_copyBox.k M := ⟨rfl, k134, k233⟩
theorem k275 : Mx.impl_Later.k M := rfl
theorem k161 : Mx.slices_IndexFunc_impl_Mail_impl_Mail.k M := rfl
theorem k160 : Mx.impl_MailAt_1.k M := rfl
theorem k72 : Mx.impl_MailAt.k M := ⟨rfl, k160, k161⟩
theorem k20 : Mx.impl_Holds.k M := ⟨rfl, k72⟩
theorem k23 : Mx.impl_KeepsUid.k M := ⟨rfl, k72⟩
theorem k485 : Mx.impl_JoinReg.k M := ⟨rfl, k275⟩
theorem k470 : Mx.impl_JoinFlags.k M := ⟨rfl, k485⟩
theorem k452 : Mx.impl_JoinMail.k M := ⟨rfl, k233, k470⟩
theorem k453 : Mx.slices_DeleteFunc_impl_Mail_impl_Mail.k M := ⟨rfl, k161⟩
theorem k234 : Mx.slices_Index_int_int.k M := rfl
theorem k156 : Mx.slices_Contains_int_int.k M := ⟨rfl, k234⟩
theorem k454 : Mx.impl_joined_1.k M := ⟨rfl, k156⟩
theorem k486 : Mx.slices_insertionSortCmpFunc_impl_Mail.k M := rfl
theorem k471 : Mx.slices_stableCmpFunc_impl_Mail.k M := ⟨rfl, k486⟩
theorem k455 : Mx.slices_SortStableFunc_impl_Mail_impl_Mail.k M := ⟨rfl, k471⟩
theorem k457 : Mx.impl_compare.k M := rfl
theorem k456 : Mx.impl_joined_2.k M := ⟨rfl, k457⟩
theorem k458 : Mx.impl_joined_3.k M := ⟨rfl, k457⟩
theorem k437 : Mx.impl_joined.k M := ⟨rfl, k20, k23, k44, k72, k233, k452, k453, k454, k455, k456, k458⟩
theorem k401 : Mx.impl_JoinBox.k M := ⟨rfl, k44, k155, k275, k437⟩
theorem k158 : Mx.laws_sameInts.k M := rfl
theorem k159 : Mx.spec_SameMail.k M := rfl
theorem k71 : Mx.laws_sameBox.k M := ⟨rfl, k158, k159⟩
theorem k43 : Mx.spec_JoinGone.k M := ⟨rfl, k132, k133⟩
theorem k22 : Mx.spec_KeepsUid.k M := ⟨rfl, k91⟩
theorem k459 : Mx.spec_l08Next.k M := rfl
theorem k460 : Mx.spec_l08Gids.k M := ⟨rfl, k132, k133⟩
theorem k488 : Mx.spec_JoinReg.k M := ⟨rfl, k277⟩
theorem k472 : Mx.spec_JoinFlags.k M := ⟨rfl, k488⟩
theorem k461 : Mx.spec_JoinMail.k M := ⟨rfl, k238, k472⟩
theorem k462 : Mx.spec_l08Put.k M := rfl
theorem k439 : Mx.spec_l08Join.k M := ⟨rfl, k22, k91, k132, k238, k459, k460, k461, k462⟩
theorem k405 : Mx.spec_JoinBox.k M := ⟨rfl, k43, k180, k277, k439⟩
theorem k154 : Mx.spec_l06Box.k M := ⟨rfl, k81, k84, k86, k125, k174, k185, k232⟩
theorem k298 : Mx.spec_l04Flags.k M := ⟨rfl, k125, k232⟩
theorem k273 : Mx.spec_l05Mail.k M := ⟨rfl, k125, k174, k298⟩
theorem k179 : Mx.spec_l01PickInt.k M := ⟨rfl, k125⟩
theorem k177 : Mx.spec_l03Any.k M := ⟨rfl, k125, k179, k232⟩
theorem k299 : Mx.spec_l03Reg.k M := ⟨rfl, k177, k179⟩
theorem k274 : Mx.spec_l04Any.k M := ⟨rfl, k125, k298, k299⟩
theorem k176 : Mx.spec_l01Long.k M := rfl
theorem k237 : Mx.spec_l05Any.k M := ⟨rfl, k125, k176, k273, k274⟩
theorem k173 : Mx.spec_l06Any.k M := ⟨rfl, k125, k154, k177, k180, k237⟩
theorem k438 : Mx.spec_l08Pair.k M := ⟨rfl, k124, k125, k173, k436⟩
theorem k414 : Mx.spec_DrawKeepsUid.k M := ⟨rfl, k124, k179, k438⟩
theorem k415 : Mx.impl_JoinMails.k M := ⟨rfl, k437⟩
theorem k395 : Mx.laws_FnUidsKept.k M := ⟨rfl, k22, k23, k36, k71, k72, k400, k401, k405, k414, k415⟩

end Go.Proofs.YtpocolhpkkkmeaaGreat.fnUidsKept
